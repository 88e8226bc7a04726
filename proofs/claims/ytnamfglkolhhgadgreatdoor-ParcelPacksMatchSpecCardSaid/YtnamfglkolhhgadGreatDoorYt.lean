/-
  Plain facts: parcels. No condition.
-/
import Derived.Test.YtnamfglkolhhgadGreatDoorYp
import Derived.Test.YtnamfglkolhhgadGreatDoorYr
import Derived.Test.YtnamfglkolhhgadGreatDoorYn
set_option linter.all false
namespace Go.Md
open Go.Dn
theorem Dm:∀ (n:Nat) (l:List Nat),l.Nodup→(∀ x∈l,x<n)→l.length≤n
 | 0,l,_,h=>by
  cases l with
  | nil=>simp
  | cons a r=>exact absurd (h a (by simp)) (ajg _)
 | n+1,l,hd,h=>by
  by_cases hm:n∈l
  ·have h1:=Dm n (l.erase n) (hd.erase n) (fun x hx=>by
    have:=(hd.mem_erase_iff).1 hx
    have:=h x this.2
    omega)
   rw[List.length_erase_of_mem hm] at h1
   omega
  ·have:=Dm n l hd (fun x hx=>by
    have h2:=h x hx
    have:x≠n:=fun e=>hm (e ▸ hx)
    omega)
   omega
def itp (par:Nat→Option Nat):Nat→Nat→Option Nat
 | 0,i=>some i
 | j+1,i=>(par i).bind (itp par j)
theorem Is {par:Nat→Option Nat}:∀ {a b i k:Nat},itp par a i=some k→itp par (a+b) i=itp par b k
 | 0,b,i,k,h=>by simp only[itp,Option.some.injEq] at h;subst h;rw[ajn]
 | a+1,b,i,k,h=>by
  simp only[itp] at h
  rw[show a+1+b=(a+b)+1 by omega]
  simp only[itp]
  cases hp:par i with
  | none=>rw[hp] at h;cases h
  | some j=>rw[hp] at h;exact Is (a:=a) (by simpa using h)
def kV (par:Nat→Option Nat) (i:Nat):Prop:=∃ j,itp par (j+1) i=some i
def zh (par:Nat→Option Nat) (i k d:Nat):Prop:=itp par (d+1) k=some i∧∀ e,e<d→itp par (e+1) k≠some i
theorem zh.uniq {par:Nat→Option Nat} {i k d e:Nat} (h:zh par i k d) (h':zh par i k e):d=e:=by
 rcases ai9 d e with h1 | h1 | h1
 ·exact absurd h.1 (h'.2 d h1)
 ·exact h1
 ·exact absurd h'.1 (h.2 e h1)
theorem zh.step {par:Nat→Option Nat} {i k d:Nat} (h:zh par i k d):∃ k',par k=some k'∧((k'=i∧d=0)∨(k'≠i∧∃ e,d=e+1∧zh par i k' e)):=by
 obtain⟨h1,h2⟩:=h
 simp only[itp] at h1
 cases hp:par k with
 | none=>rw[hp] at h1;cases h1
 | some k'=>
  rw[hp] at h1
  refine⟨k',rfl, ?_⟩
  cases d with
  | zero=>simp only[ajq,itp,Option.some.injEq] at h1;exact .inl ⟨h1,rfl⟩
  | succ e=>
   right
   refine⟨fun e1=> ?_,e,rfl,by simpa using h1,fun f hf hx=> ?_⟩
   ·refine h2 0 (by omega) ?_
    simp only[itp,hp,ajq,e1]
   ·refine h2 (f+1) (by omega) ?_
    rw[show f+1+1=(f+1)+1 from rfl]
    show (par k).bind (itp par (f+1))=some i
    rw[hp];exact hx
theorem kV.adD {par:Nat→Option Nat} {i:Nat} (h:kV par i):∃ d,zh par i i d:=by
 obtain⟨j,hj⟩:=h
 induction j using Nat.strongRecOn with
 | _ j ih=>
  by_cases hx:∃ e,e<j∧itp par (e+1) i=some i
  ·obtain⟨e,h1,h2⟩:=hx;exact ih e h1 h2
  ·exact⟨j,hj,fun e he h2=>hx ⟨e,he,h2⟩⟩
theorem zh.list {par:Nat→Option Nat} {i n:Nat} (hn:∀ k k',par k=some k'→k'<n):∀ {d k:Nat},k<n→zh par i k d→∃ l:List Nat,l.length=d+1∧l.Nodup∧(∀ x∈l,x<n)∧∀ x∈l,∃ e,e≤d∧zh par i x e
 | 0,k,hk,h=>⟨[k],rfl,by simp,by simpa using hk,fun x hx=>by simp at hx;subst hx;exact⟨0,ai0 _,h⟩⟩
 | d+1,k,hk,h=>by
  obtain⟨k',h1,h2⟩:=h.step
  rcases h2 with ⟨_,h2⟩ | ⟨_,e,h2,h3⟩
  ·omega
  ·have:e=d:=by omega
   subst this
   obtain⟨l,l1,l2,l3,l4⟩:=zh.list hn (hn _ _ h1) h3
   refine⟨k::l,by simp[l1],aix.2 ⟨fun hm=> ?_,l2⟩,fun x hx=> ?_,fun x hx=> ?_⟩
   ·obtain⟨f,f1,f2⟩:=l4 k hm
    have:=f2.uniq h
    omega
   ·rcases aij.1 hx with rfl | hx
    ·exact hk
    ·exact l3 x hx
   ·rcases aij.1 hx with rfl | hx
    ·exact⟨e+1,ai0 _,h⟩
    ·obtain⟨f,f1,f2⟩:=l4 x hx;exact⟨f,by omega,f2⟩
theorem zh.le {par:Nat→Option Nat} {i n d k:Nat} (hn:∀ k k',par k=some k'→k'<n) (hk:k<n) (h:zh par i k d):d+1≤n:=by
 obtain⟨l,l1,l2,l3,_⟩:=h.list hn hk
 have:=Dm n l l2 l3
 omega
def anc (par:Nat→Option Nat):Nat→Nat→List Nat
 | 0,_=>[]
 | f+1,i=>match par i with
  | none=>[]
  | some k=>k::anc par f k
theorem BP {par:Nat→Option Nat} {f i k:Nat} (h:par i=some k):anc par (f+1) i=k::anc par f k:=by simp[anc,h]
theorem OZ {par:Nat→Option Nat} {i:Nat} (h:par i=none):∀ f,anc par f i=[]
 | 0=>rfl
 | f+1=>by simp[anc,h]
theorem ZR {par:Nat→Option Nat}:∀ {f i x:Nat},x∈anc par f i→∃ j,j<f∧itp par (j+1) i=some x
 | 0,_,_,h=>by simp[anc] at h
 | f+1,i,x,h=>by
  cases hp:par i with
  | none=>simp[anc,hp] at h
  | some k=>
   rw[BP hp] at h
   rcases aij.1 h with rfl | h
   ·exact⟨0,by omega,by simp[itp,hp]⟩
   ·obtain⟨j,h1,h2⟩:=ZR h
    exact⟨j+1,by omega,by show (par i).bind (itp par (j+1))=some x;rw[hp];exact h2⟩
theorem abA {par:Nat→Option Nat} {n:Nat} (hn:∀ k k',par k=some k'→k'<n):∀ {f i x:Nat},x∈anc par f i→x<n
 | 0,_,_,h=>by simp[anc] at h
 | f+1,i,x,h=>by
  cases hp:par i with
  | none=>simp[anc,hp] at h
  | some k=>
   rw[BP hp] at h
   rcases aij.1 h with rfl | h
   ·exact hn _ _ hp
   ·exact abA hn h
theorem Lm {par:Nat→Option Nat} {n:Nat} (hn:∀ k k',par k=some k'→k'<n) (hl:∀ k,k<n→¬ kV par k):∀ {f i:Nat},i<n→(i::anc par f i).Nodup
 | 0,i,_=>by simp[anc]
 | f+1,i,hi=>by
  rw[aix]
  refine⟨fun hm=> ?_, ?_⟩
  ·obtain⟨j,_,hj⟩:=ZR hm
   exact hl i hi ⟨j,hj⟩
  ·cases hp:par i with
   | none=>simp[anc,hp]
   | some k=>
    rw[BP hp]
    exact Lm hn hl (hn _ _ hp)
theorem aex {par:Nat→Option Nat} {n:Nat} (hn:∀ k k',par k=some k'→k'<n) (hl:∀ k,k<n→¬ kV par k) {f i:Nat} (hi:i<n):(anc par f i).length<n:=by
 have:=Dm n (i::anc par f i) (Lm hn hl hi) (fun x hx=>by
  rcases aij.1 hx with rfl | hx
  ·exact hi
  ·exact abA hn hx)
 simp at this;omega
theorem Ux {par:Nat→Option Nat}:∀ {f g i:Nat},(anc par f i).length<f→f≤g→anc par g i=anc par f i
 | 0,_,_,h,_=>by simp[anc] at h
 | f+1,g,i,h,hg=>by
  obtain⟨g,rfl⟩:∃ g',g=g'+1:=⟨g - 1,by omega⟩
  cases hp:par i with
  | none=>rw[OZ hp,OZ hp]
  | some k=>
   rw[BP hp] at h ⊢
   rw[BP hp]
   rw[Ux (f:=f) (by simpa using h) (by omega)]
end Go.Md
namespace Go.Md
open Go.Dn
theorem yg (l:List Int) (x:Int) (hl:l.length<1000000000):kZ l x=some (decide (x∈l),()):=by
 unfold kZ zD
 have loop:∀ f,l.length<f→∃ n:Int,iter f ((l,x,(l.length:Int),(0:Int),()):lg) nY=(if x∈l then some (Sum.inl (n,())) else some (Sum.inr ()))∧0≤n:=by
  intro f hf
  refine bf (Inv:=fun i X=>X=((l,x,(l.length:Int),(i:Int),()):lg)∧∀ j y,j<i→l[j]? =some y→y≠x) l.length
   (fun r=>∃ n:Int,r=(if x∈l then some (Sum.inl (n,())) else some (Sum.inr ()))∧0≤n) ?_ ?_ f 0 _ ⟨rfl,fun _ _ h=>absurd h (ajg _)⟩ (by omega) (by omega)
  ·rintro i _ again hi ⟨rfl,hb⟩ ih
   unfold nY
   dsimp only
   have hy:l[i]? =some l[i]:=aM hi
   generalize l[i]=y at hy
   rw[ax (by omega),aV,hy,ajq]
   by_cases he:x=y
   ·rw[show (x==y)=true by simpa using he,ajE]
    exact⟨i,by rw[ajQ (he ▸ air hy)],by omega⟩
   ·rw[show (x==y)=false by simpa using he,ajD,aq (by omega) (by omega)]
    refine ih _ ⟨rfl,fun j z hj hz=> ?_⟩
    rcases ai6.1 hj with h | h
    ·exact hb j z h hz
    ·subst h;rw[hy] at hz;cases hz;exact fun e=>he e.symm
  ·rintro _ again ⟨rfl,hb⟩
   unfold nY
   dsimp only
   rw[av (by omega)]
   refine⟨0, ?_,agV _⟩
   rw[ajP]
   intro hm
   obtain⟨j,hj⟩:=aio.1 hm
   exact hb j x (ahQ.1 hj).1 hj rfl
 obtain⟨n,h1,h2⟩:=loop (List.length l+(Int.natAbs x+(Int.natAbs ((List.length l:Int))+(Int.natAbs (0:Int)+2)))) (by omega)
 rw[h1]
 by_cases hm:x∈l
 ·rw[ajQ hm,bO,ajq,ajI hm]
  congr 2
  exact ajI h2
 ·rw[ajP hm,aB,ajq,ajG hm]
  rfl
def gz (c:UInt8):Bool:=decide (48≤c.toNat)&&decide (c.toNat≤57)
theorem Jj {c:UInt8}:(decide ((c.toNat:Int)<48)=false∧decide ((c.toNat:Int)>57)=false)↔gz c=true:=by
 simp only[gz,agE,ajJ,ajH]
 omega
theorem Gv (s:List UInt8) (hs:s.length≤9223372036854775807):vu s=some (decide (s≠[])&&s.all gz,()):=by
 unfold vu Hl
 by_cases h0:s=[]
 ·subst h0;rfl
 ·rw[show (!(s==[]))=true by cases s<;>simp_all,ajE,ajI h0,agT]
  have loop:∀ f,s.length<f→iter f ((s,(48:Int),(57:Int),(s.length:Int),(0:Int),()):qV) wQ=(if s.all gz=true then some (Sum.inr ()) else some (Sum.inl (false,()))):=by
   intro f hf
   refine bf (Inv:=fun i X=>X=((s,(48:Int),(57:Int),(s.length:Int),(i:Int),()):qV)∧(s.take i).all gz=true) s.length
    (fun r=>r=(if s.all gz=true then some (Sum.inr ()) else some (Sum.inl (false,())))) ?_ ?_ f 0 _ ⟨rfl,by simp⟩ (by omega) (by omega)
   ·rintro i _ again hi ⟨rfl,hb⟩ ih
    unfold wQ
    dsimp only
    have hy:s[i]? =some s[i]:=aM hi
    have hym:s[i]∈s:=ahZ hi
    generalize s[i]=y at hy hym
    rw[ax (by omega),Cd hy,ajq,ajq,aq (by omega) (by omega)]
    cases hd:gz y with
    | true=>
     obtain⟨h1,h2⟩:=Jj.2 hd
     rw[h1,h2,ajD,ajD]
     refine ih _ ⟨rfl, ?_⟩
     rw[mD hy]
     simp[hb,hd]
    | false=>
     have hall:s.all gz=false:=by
      rw[List.all_eq_false]
      exact⟨y,hym,by simp[hd]⟩
     rw[hall]
     cases h1:decide ((y.toNat:Int)<48) with
     | true=>rfl
     | false=>
      cases h2:decide ((y.toNat:Int)>57) with
      | true=>rfl
      | false=>have:=Jj.1 ⟨h1,h2⟩;rw[hd] at this;cases this
   ·rintro _ again ⟨rfl,hb⟩
    unfold wQ
    dsimp only
    rw[av (by omega)]
    rw[aiP (ai0 _)] at hb
    rw[ajQ hb]
  rw[loop _ (by omega)]
  cases s.all gz<;>rfl
theorem Ue (s:List UInt8) (hs:s.length≤9223372036854775807):nh s=some (decide (s≠[])&&s.all gz,()):=by
 unfold nh
 by_cases h0:s=[]
 ·subst h0;rfl
 ·rw[show (s==[])=false by cases s<;>simp_all,ajD,ajI h0,agT]
  have loop:∀ f,s.length<f→iter f ((s,(s.length:Int),(0:Int),()):rG) xo=(if s.all gz=true then some (Sum.inr ()) else some (Sum.inl (false,()))):=by
   intro f hf
   refine bf (Inv:=fun i X=>X=((s,(s.length:Int),(i:Int),()):rG)∧(s.take i).all gz=true) s.length
    (fun r=>r=(if s.all gz=true then some (Sum.inr ()) else some (Sum.inl (false,())))) ?_ ?_ f 0 _ ⟨rfl,by simp⟩ (by omega) (by omega)
   ·rintro i _ again hi ⟨rfl,hb⟩ ih
    unfold xo
    dsimp only
    have hy:s[i]? =some s[i]:=aM hi
    have hym:s[i]∈s:=ahZ hi
    generalize s[i]=y at hy hym
    rw[ax (by omega),Cd hy,ajq,ajq,aq (by omega) (by omega)]
    cases hd:gz y with
    | true=>
     obtain⟨h1,h2⟩:=Jj.2 hd
     rw[h1,h2,ajD,ajD]
     refine ih _ ⟨rfl, ?_⟩
     rw[mD hy]
     simp[hb,hd]
    | false=>
     have hall:s.all gz=false:=by
      rw[List.all_eq_false]
      exact⟨y,hym,by simp[hd]⟩
     rw[hall]
     cases h1:decide ((y.toNat:Int)<48) with
     | true=>rfl
     | false=>
      cases h2:decide ((y.toNat:Int)>57) with
      | true=>rfl
      | false=>have:=Jj.1 ⟨h1,h2⟩;rw[hd] at this;cases this
   ·rintro _ again ⟨rfl,hb⟩
    unfold xo
    dsimp only
    rw[av (by omega)]
    rw[aiP (ai0 _)] at hb
    rw[ajQ hb]
  rw[loop _ (by omega)]
  cases s.all gz<;>rfl
theorem OU (s:List UInt8) (hs:s.length≤100):∃ b,ni s=some (b,()):=by
 unfold ni
 have loop:∀ f,s.length<f→∃ n:Int,iter f ((s,(0:Int),(s.length:Int),(0:Int),()):kg) nF=some (Sum.inr (n,())):=by
  intro f hf
  refine bf (Inv:=fun i X=>∃ n:Int,X=((s,n,(s.length:Int),(i:Int),()):kg)) s.length
   (fun r=>∃ n:Int,r=some (Sum.inr (n,()))) ?_ ?_ f 0 _ ⟨0,rfl⟩ (by omega) (by omega)
  ·rintro i _ again hi ⟨n,rfl⟩ ih
   unfold nF
   dsimp only
   have e:w64 (w64 ((s.length:Int) - 1) - (i:Int))=((s.length - 1 - i:Nat):Int):=by
    rw[aq (n:=(s.length:Int) - 1) (by omega) (by omega),aq (by omega) (by omega)];omega
   have hy:s[s.length - 1 - i]? =some (s[s.length - 1 - i]'(by omega)):=aM (by omega)
   rw[ax (by omega),e,Cd hy,ajq,aq (n:=(i:Int)+1) (by omega) (by omega)]
   cases (Int.tmod (i:Int) 2==1) with
   | true=>rw[ajE];exact ih _ ⟨_,rfl⟩
   | false=>rw[ajD];exact ih _ ⟨_,rfl⟩
  ·rintro _ again ⟨n,rfl⟩
   unfold nF
   dsimp only
   rw[av (by omega)]
   exact⟨n,rfl⟩
 obtain⟨n,h⟩:=loop (List.length s+(Int.natAbs (0:Int)+(Int.natAbs ((List.length s:Int))+(Int.natAbs (0:Int)+2)))) (by omega)
 rw[h]
 exact⟨_,rfl⟩
def lbl (s:List UInt8):Bool:=decide (s.length=18)&&(s.all gz&&((ni s).map (·.1)).getD false)
theorem D9 (s:List UInt8) (hs:s.length≤9223372036854775807):ri s=some (lbl s,()):=by
 unfold ri uI kI me BO
 rw[eP,ajq,ajq]
 dsimp only
 rw[show (!(!(decide ((3:Int)<1∨(5:Int)<3))))=false by decide,ajD,show ((3:Int)==4)=false from rfl,show ((3:Int)==5)=false from rfl,show ((3:Int)==1)=false from rfl,show ((3:Int)==2)=false from rfl]
 simp only[ajD,ajq]
 rw[yg _ _ (by decide),ajq,Gv s hs]
 unfold lbl
 by_cases hl:s.length=18
 ·obtain⟨b,hb⟩:=OU s (by omega)
  have hb2:EI s=some (b,()):=hb
  have hne:s≠[]:=fun e=>by subst e;cases hl
  rw[ajI (show (s.length:Int)∈[18] by simp;omega),ajE,ajq,ajI hne,agT,ajI hl,agT,hb2,hb]
  cases s.all gz<;>simp
 ·rw[ajG (show ¬ (s.length:Int)∈[18] by simp;omega),ajG hl]
  rfl
theorem IJ (s:List UInt8) (hs:s.length≤9223372036854775807):yc s=some (lbl s,()):=by
 unfold yc CJ Ad qq
 rw[rH,ajq,ajq]
 dsimp only
 rw[show (!(decide ((1:Int)≤3∧(3:Int)≤5)))=false by decide,ajD,show ((3:Int)==1)=false from rfl,show ((3:Int)==2)=false from rfl,show ((3:Int)==3)=true from rfl]
 simp only[ajD,ajE]
 rw[Ue s hs,ajq]
 unfold lbl
 by_cases hl:s.length=18
 ·obtain⟨b,hb⟩:=OU s (by omega)
  have hne:s≠[]:=fun e=>by subst e;cases hl
  rw[ajI hne,agT,ajI hl,agT,hb,show ((s.length:Int)==18)=true by rw[hl];rfl]
  cases s.all gz<;>simp
 ·rw[ajG hl,show ((s.length:Int)==18)=false by rw[ajz];omega]
  cases (decide (s≠[])&&s.all gz)<;>rfl
def qOk (d:ak) (zero:Bool):Bool:=inR d 0 1000000000 3&&(!(d.1==0)||zero)
theorem RW {d:ak} (hd:cq d):AL d 3 1000000000=some (inR d 0 1000000000 3,()):=by
 unfold AL
 have hp:=GC d.2.toNat
 have hp2:(10:Int) ^ d.2.toNat≤1000000000:=by
  have:=ajj (n:=10) (by omega) (show d.2.toNat≤9 by have:=hd.2.2;omega)
  have h2:=ag5.2 this
  simpa using h2
 rw[T4 d.2 hd.2.1 (by have:=hd.2.2;omega)]
 have e:inR d 0 1000000000 3=(decide (d.2≤3)&&(decide (d.1≥0)&&decide (d.1≤1000000000*10 ^ d.2.toNat))):=by
  unfold inR
  rw[← Bool.decide_and, ← Bool.decide_and,ajF,Int.zero_mul]
  constructor
  ·rintro⟨_,h2,h3,h4⟩;exact⟨h2,h3,h4⟩
  ·rintro⟨h2,h3,h4⟩;exact⟨hd,h2,h3,h4⟩
 rw[e,ajq,aq (n:=1000000000*10 ^ d.2.toNat) (by omega) (by omega)]
 cases decide (d.2≤3)<;>cases decide (d.1≥0)<;>cases decide (d.1≤1000000000*10 ^ d.2.toNat)<;>rfl
theorem lK (d:ak) (z:Bool):ck d z=some (if qOk d z=true then 0 else 1,()):=by
 unfold ck qOk
 rw[xD,ajq]
 by_cases hd:cq d
 ·rw[RW hd,ajQ hd]
  dsimp only
  rw[show ((0:Int) != 0)=false from rfl,ajD,ajq]
  cases inR d 0 1000000000 3<;>cases (d.1==0)<;>cases z<;>rfl
 ·have:inR d 0 1000000000 3=false:=by unfold inR;simp[hd]
  simp[hd,this]
theorem yL (d:ak) (above:Bool):iF d above=some (qOk d (!above),()):=by
 unfold iF qOk
 rw[BL,ajq]
 by_cases hd:cq d
 ·have h2:cq (1000000000,0):=by decide
  have hc:Nz d (1000000000,0)=some ((zk d - zk (1000000000,0)).sign,()):=abg hd h2
  have e9:zk (1000000000,0)=1000000000*10 ^ 9:=rfl
  have hs:decide ((zk d - zk (1000000000,0)).sign≤0)=decide (d.1≤1000000000*10 ^ d.2.toNat):=by
   rw[ajF, ← aeD hd.2.1 hd.2.2, ← e9,Int.sign_nonpos_iff];omega
  rw[hc,ajQ hd]
  dsimp only
  rw[show ((0:Int)==0)=true from rfl,ajE,ajq]
  dsimp only
  rw[hs]
  have e:inR d 0 1000000000 3=(decide (d.2≤3)&&(decide (d.1≥0)&&decide (d.1≤1000000000*10 ^ d.2.toNat))):=by
   unfold inR
   rw[← Bool.decide_and, ← Bool.decide_and,ajF,Int.zero_mul]
   constructor
   ·rintro⟨_,h2,h3,h4⟩;exact⟨h2,h3,h4⟩
   ·rintro⟨h2,h3,h4⟩;exact⟨hd,h2,h3,h4⟩
  have hz:(d.1==0)=(decide (d.1≥0)&& !decide (d.1>0)):=by
   by_cases h:d.1=0
   ·rw[show (d.1==0)=true by simpa using h,h];rfl
   ·rw[show (d.1==0)=false by simpa using h]
    by_cases h3:d.1>0
    ·simp[h3]
    ·have:¬ d.1≥0:=by omega
     simp[this]
  rw[e,hz]
  have himp:d.1>0→d.1≥0:=fun h=>by omega
  cases h5:decide (d.1>0)<;>cases decide (d.2≤3)<;>cases h6:decide (d.1≥0)<;>cases decide (d.1≤1000000000*10 ^ d.2.toNat)<;>cases above<;>simp_all
 ·have:inR d 0 1000000000 3=false:=by unfold inR;simp[hd]
  simp[hd,this]
end Go.Md
namespace Go.Md
open Go.Dn
theorem uT (l:List aa) (t:List UInt8) (hl:l.length<1000000000):nE l t=some (ixI (jK (·.1) t l),()):=by
 unfold nE
 have loop:∀ f,l.length<f→iter f ((t,l,(l.length:Int),(0:Int),()):pM) uS=(match jK (·.1) t l with | some k=>some (Sum.inl ((k:Int),())) | none=>some (Sum.inr ())):=by
  intro f hf
  refine bf (Inv:=fun i X=>X=((t,l,(l.length:Int),(i:Int),()):pM)∧∀ j x,j<i→l[j]? =some x→x.1≠t) l.length
   (fun r=>r=(match jK (·.1) t l with | some k=>some (Sum.inl ((k:Int),())) | none=>some (Sum.inr ()))) ?_ ?_ f 0 _ ⟨rfl,fun _ _ h=>absurd h (ajg _)⟩ (by omega) (by omega)
  ·rintro i _ again hi ⟨rfl,hb⟩ ih
   unfold uS
   dsimp only
   have hy:l[i]? =some l[i]:=aM hi
   generalize l[i]=y at hy
   rw[ax (by omega),aV,hy,ajq]
   by_cases he:y.1=t
   ·rw[show (y.1==t)=true by simpa using he,ajE]
    have:jK (·.1) t l=some i:=by
     unfold jK
     rw[ahF]
     refine⟨hi, ?_,fun j hj=> ?_⟩
     ·have:=(ahQ.1 hy).2
      rw[this];simpa using he
     ·have:=hb j l[j] hj (ahO _)
      simpa using this
    rw[this]
   ·rw[show (y.1==t)=false by simpa using he,ajD,aq (by omega) (by omega)]
    refine ih _ ⟨rfl,fun j x hj hx=> ?_⟩
    rcases ai6.1 hj with h | h
    ·exact hb j x h hx
    ·subst h;rw[hy] at hx;cases hx;exact he
  ·rintro _ again ⟨rfl,hb⟩
   unfold uS
   dsimp only
   rw[av (by omega)]
   have:jK (·.1) t l=none:=by
    unfold jK
    rw[ahE]
    intro x hx
    obtain⟨j,hj⟩:=aio.1 hx
    have:=hb j x (ahQ.1 hj).1 hj
    simpa using this
   rw[this]
 rw[loop _ (by omega)]
 cases jK (·.1) t l<;>rfl
theorem SG (l:List aa) (t:List UInt8) (hl:l.length<1000000000) (hs:Asc (·.1) l):
 ∃ i:Nat,dh l t ()=some ((i:Int),(jK (·.1) t l).isSome,())∧∀ k,jK (·.1) t l=some k→i=k:=by
 unfold dh
 have loop:∀ f,l.length<f→∃ i:Nat,iter f ((l,t,(),(l.length:Int),(0:Int),(l.length:Int),()):bX) fF=some (Sum.inr (l,t,(),(l.length:Int),(i:Int),()))∧i≤l.length∧(∀ k x,l[k]? =some x→k<i→Op.bytesLess x.1 t=true)∧∀ k x,l[k]? =some x→i≤k→Op.bytesLess x.1 t=false:=by
  intro f hf
  refine zX (Inv:=fun X=>∃ i j:Nat,X=((l,t,(),(l.length:Int),(i:Int),(j:Int),()):bX)∧i≤j∧j≤l.length∧(∀ k x,l[k]? =some x→k<i→Op.bytesLess x.1 t=true)∧∀ k x,l[k]? =some x→j≤k→Op.bytesLess x.1 t=false)
   (fun X=>(X.2.2.2.2.2.1 - X.2.2.2.2.1).toNat)
   (fun _ r=>∃ i:Nat,r=some (Sum.inr (l,t,(),(l.length:Int),(i:Int),()))∧i≤l.length∧(∀ k x,l[k]? =some x→k<i→Op.bytesLess x.1 t=true)∧∀ k x,l[k]? =some x→i≤k→Op.bytesLess x.1 t=false) ?_ f _ ⟨0,l.length,rfl,by omega,by omega,fun _ _ _ h=>absurd h (ajg _),fun k x hk hle=>by have:=(ahQ.1 hk).1;omega⟩ (by dsimp only;omega)
  rintro _ again ⟨i,j,rfl,hij,hj,h1,h2⟩ ih
  dsimp only at ih
  unfold fF
  dsimp only
  by_cases hlt:i<j
  ·rw[ax (by omega)]
   have em:w64 (Int.fdiv (bR (w64 ((i:Int)+(j:Int)))) (2 ^ 1))=(((i+j) / 2:Nat):Int):=by
    rw[aq (n:=(i:Int)+(j:Int)) (by omega) (by omega),dF (by omega) (by omega),agU _ (by omega),aq (by omega) (by omega)]
    omega
   rw[em]
   have hm:(i+j) / 2<l.length:=by omega
   have hy:l[(i+j) / 2]? =some l[(i+j) / 2]:=aM hm
   have hmi:i≤(i+j) / 2∧(i+j) / 2<j:=by omega
   generalize (i+j) / 2=m at*
   generalize l[m]=y at hy
   rw[aV,hy,ajq]
   show ∃ i,Option.bind (Option.bind (some (Lib.compareBytes y.1 t,())) fun r1=>some (r1.1,())) _=_∧_
   rw[ajq,ajq]
   dsimp only
   by_cases hc:Lib.compareBytes y.1 t<0
   ·rw[ax hc,aq (by omega) (by omega)]
    refine ih _ ⟨m+1,j,rfl,by omega,hj,fun k x hk hkm=> ?_,h2⟩ (by dsimp only;omega)
    rcases ai6.1 hkm with h | h
    ·have:=hs k m x y h hk hy
     exact gL this (sr.1 hc)
    ·subst h;rw[hy] at hk;cases hk;exact sr.1 hc
   ·rw[av hc]
    refine ih _ ⟨i,m,rfl,by omega,by omega,h1,fun k x hk hkm=> ?_⟩ (by dsimp only;omega)
    have hc':Op.bytesLess y.1 t=false:=by
     cases h:Op.bytesLess y.1 t with
     | false=>rfl
     | true=>exact absurd (sr.2 h) hc
    rcases Nat.lt_or_eq_of_le hkm with h | h
    ·cases hx:Op.bytesLess x.1 t with
     | false=>rfl
     | true=>rw[gL (hs m k y x h hy hk) hx] at hc';cases hc'
    ·subst h;rw[hy] at hk;cases hk;exact hc'
  ·rw[av (by omega)]
   have:i=j:=by omega
   subst this
   exact⟨i,rfl,hj,h1,h2⟩
 obtain⟨i,h1,h2,h3,h4⟩:=loop (List.length l+(List.length t+(Int.natAbs ((List.length l:Int))+(Int.natAbs (0:Int)+(Int.natAbs ((List.length l:Int))+2))))) (by omega)
 refine⟨i, ?_,fun k hk=> ?_⟩
 ·rw[h1,aB]
  dsimp only
  by_cases hi:i<l.length
  ·have hy:l[i]? =some l[i]:=aM hi
   generalize l[i]=y at hy
   rw[ax (by omega),aV,hy,ajq]
   show Option.bind (Option.bind (some (Lib.compareBytes y.1 t,())) fun r1=>some (r1.1,())) _=_
   rw[ajq,ajq]
   congr 3
   by_cases he:y.1=t
   ·rw[aeK hs hy he,C2.2 he];rfl
   ·have hne:¬ Lib.compareBytes y.1 t=0:=fun h=>he (C2.1 h)
    rw[show (Lib.compareBytes y.1 t==0)=false by simpa using hne]
    cases hx:jK (·.1) t l with
    | none=>rfl
    | some k=>
     exfalso
     obtain⟨x,k1,k2⟩:=zZ hx
     rcases ai9 k i with h | h | h
     ·have:=h3 k x k1 h;rw[k2,b7] at this;cases this
     ·subst h;rw[hy] at k1;cases k1;exact he k2
     ·have:=hs i k y x h hy k1
      dsimp only at this
      rw[k2,h4 i y hy (ai0 _)] at this;cases this
  ·rw[av (by omega)]
   congr 3
   cases hx:jK (·.1) t l with
   | none=>rfl
   | some k=>
    exfalso
    obtain⟨x,k1,k2⟩:=zZ hx
    have:=h3 k x k1 (by have:=(ahQ.1 k1).1;omega)
    rw[k2,b7] at this;cases this
 ·obtain⟨x,k1,k2⟩:=zZ hk
  rcases ai9 k i with h | h | h
  ·have:=h3 k x k1 h;rw[k2,b7] at this;cases this
  ·exact h.symm
  ·have hy:l[i]? =some (l[i]'(by have:=(ahQ.1 k1).1;omega)):=aM _
   have:=hs i k _ x h hy k1
   dsimp only at this
   rw[k2,h4 i _ hy (ai0 _)] at this;cases this
theorem DD (a:di) (t:List UInt8) (hl:a.2.2.2.length<1000000000) (hs:Asc (·.1) a.2.2.2):
 ∃ i:Nat,pn a t=some ((i:Int),(jK (·.1) t a.2.2.2).isSome,())∧∀ k,jK (·.1) t a.2.2.2=some k→i=k:=by
 obtain⟨i,h1,h2⟩:=SG a.2.2.2 t hl hs
 exact⟨i,by unfold pn;rw[h1,ajq],h2⟩
def I4 (a b:aW):Int:=cD (fun _ y=>y) 0 [Lib.compareBytes a.1 b.1,Lib.compareBytes a.2.1 b.2.1,Lib.compareBytes a.2.2.1 b.2.2.1]
theorem UB (l:List Int) (hl:l.length<1000):Ap l=some (cD (fun _ y=>y) 0 l,()):=by
 unfold Ap
 rw[fO (f:=yx) (fun i=>(((0:Int),l,(l.length:Int),(i:Int),()):yy)) l (fun _ y=>y) (0,()) ?_ ?_ ?_ _ ?_]
 ·exact (afH _ _ _ 0 rfl).trans (by
   by_cases h:cD (fun _ y=>y) 0 l=0
   ·rw[ajP (by simpa using h),h]
   ·rw[ajQ h])
 ·rfl
 ·intro i y again hy
  have hi:=(ahQ.1 hy).1
  unfold yx
  dsimp only
  rw[ax (by omega),aV,hy,ajq,aq (by omega) (by omega)]
  by_cases h:y=0
  ·subst h;rfl
  ·rw[show (y != 0)=true by simpa using h,ajE,ajP h]
 ·intro again
  unfold yx
  dsimp only
  rw[av (by omega)]
 ·omega
theorem Ek (a b:aW):iZ a b=some (I4 a b,()):=by
 unfold iZ strings_Compare I4
 simp only[ajq]
 rw[UB _ (by simp),ajq]
theorem K9 (a b:aW):nD a b=some (I4 a b,()):=by
 unfold nD strings_Compare I4
 simp only[ajq]
 generalize hL:[Lib.compareBytes a.1 b.1,Lib.compareBytes a.2.1 b.2.1,Lib.compareBytes a.2.2.1 b.2.2.1]=l
 have hl:l.length=3:=by subst hL;rfl
 rw[fO (f:=nV) (fun i=>((l,(l.length:Int),(i:Int),()):nW)) l (fun _ y=>y) () ?_ ?_ ?_ _ ?_]
 ·exact GN _ _
 ·rfl
 ·intro i y again hy
  have hi:=(ahQ.1 hy).1
  unfold nV
  dsimp only
  rw[ax (by omega),aV,hy,ajq,aq (by omega) (by omega)]
  by_cases h:y=0
  ·subst h;rfl
  ·rw[show (y != 0)=true by simpa using h,ajE,ajP h]
 ·intro again
  unfold nV
  dsimp only
  rw[av (by omega)]
 ·omega
def JY (l:List aW) (i:Nat) (y:aW):Bool:=match i with
 | 0=>false
 | i+1=>match l[i]? with
  | some p=>decide (I4 p y≥0)
  | none=>false
def I6 (l:List aW) (i:Nat) (c:aW):Int:=
 if eH c.1=false then 5 else if eH c.2.1=false then 5 else if (!(c.2.2.1==[])&& !eH c.2.2.1)=true then 5
 else if JY l i c=true then 8 else if qOk c.2.2.2 false=true then 0 else 1
def oK (l:List aW):Int:=if 100<l.length then 2 else cD (I6 l) 0 l
theorem Ab {α:Type} {l:List α} {i:Nat} (hi:i<l.length) (hl:l.length<1000000000):idx l (w64 (((i+1:Nat):Int) - 1))=l[i]? :=by
 rw[aq (by omega) (by omega),show ((i+1:Nat):Int) - 1=((i:Nat):Int) by omega,aV]
theorem Ge (l:List aW):jX l=some (oK l,()):=by
 unfold jX oK
 by_cases hb:100<l.length
 ·rw[ax (by omega),ajQ hb]
 ·rw[av (by omega),ajP hb]
  rw[fO (f:=kT) (fun i=>((l,l,(l.length:Int),(i:Int),()):kU)) l (I6 l) () ?_ ?_ ?_ _ ?_]
  ·exact GN _ _
  ·rfl
  ·intro i y again hy
   have hi:=(ahQ.1 hy).1
   unfold kT
   dsimp only
   rw[ax (by omega),aV,hy,ajq]
   simp only[tu,ajq,lK,Ek]
   have hw:w64 ((i:Int)+1)=((i+1:Nat):Int):=by rw[aq (by omega) (by omega)];omega
   rw[hw]
   unfold I6
   generalize qOk y.2.2.2 false=q
   cases i with
   | zero=>
    simp only[JY]
    cases eH y.1<;>cases eH y.2.1<;>cases (y.2.2.1==[])<;>cases eH y.2.2.1<;>cases q<;>simp
   | succ i=>
    have hp:l[i]? =some (l[i]'(by omega)):=aM (by omega)
    have ep:JY l (i+1) y=decide (I4 (l[i]'(by omega)) y≥0):=by simp only[JY,hp]
    have hpos:decide (((i+1:Nat):Int)>0)=true:=by simp
    rw[Ab (by omega) (by omega),hp,ep,hpos]
    simp only[ajq,ajE]
    generalize decide (I4 (l[i]'(by omega)) y≥0)=p
    cases eH y.1<;>cases eH y.2.1<;>cases (y.2.2.1==[])<;>cases eH y.2.2.1<;>cases q<;>cases p<;>simp
  ·intro again
   unfold kT
   dsimp only
   rw[av (by omega)]
  ·omega
theorem J3 (l:List aW):mM l=some (oK l,()):=by
 unfold mM oK
 by_cases hb:100<l.length
 ·rw[ax (by omega),ajQ hb]
 ·rw[av (by omega),ajP hb]
  rw[fO (f:=mV) (fun i=>((l,l,(l.length:Int),(i:Int),()):mW)) l (I6 l) () ?_ ?_ ?_ _ ?_]
  ·exact GN _ _
  ·rfl
  ·intro i y again hy
   have hi:=(ahQ.1 hy).1
   unfold mV
   dsimp only
   rw[ax (by omega),aV,hy,ajq]
   simp only[vW,ajq,yL,K9,agP]
   have hw:w64 ((i:Int)+1)=((i+1:Nat):Int):=by rw[aq (by omega) (by omega)];omega
   rw[hw]
   unfold I6
   generalize qOk y.2.2.2 false=q
   cases i with
   | zero=>
    simp only[JY]
    cases eH y.1<;>cases eH y.2.1<;>cases (y.2.2.1==[])<;>cases eH y.2.2.1<;>cases q<;>simp
   | succ i=>
    have hp:l[i]? =some (l[i]'(by omega)):=aM (by omega)
    have ep:JY l (i+1) y=decide (I4 (l[i]'(by omega)) y≥0):=by simp only[JY,hp]
    have hpos:decide (((i+1:Nat):Int)>0)=true:=by simp
    rw[Ab (by omega) (by omega),hp,ep,hpos]
    simp only[ajq,ajE]
    generalize decide (I4 (l[i]'(by omega)) y≥0)=p
    cases eH y.1<;>cases eH y.2.1<;>cases (y.2.2.1==[])<;>cases eH y.2.2.1<;>cases q<;>cases p<;>simp
  ·intro again
   unfold mV
   dsimp only
   rw[av (by omega)]
  ·omega
def Em (l:List aa) (i:Nat) (y:aa):Bool:=match i with
 | 0=>false
 | i+1=>match l[i]? with
  | some p=>Op.bytesLess y.1 p.1||y.1==p.1
  | none=>false
def qE (l:List aa) (i:Nat) (p:aa):Int:=
 if lbl p.1=false then 3 else if Em l i p=true then 8 else if qOk p.2.2.1 true=false then 1 else oK p.2.2.2
theorem IG (l:List aa) (i:Nat) (y:aa) (hy:l[i]? =some y) (hl:l.length<1000000000) (hs:y.1.length≤9223372036854775807):pq l (i:Int)=some (qE l i y,()):=by
 have hi:=(ahQ.1 hy).1
 unfold pq qE
 rw[aV,hy,ajq,D9 _ hs]
 simp only[ajq,lK,Ge]
 cases i with
 | zero=>
  simp only[Em]
  cases lbl y.1<;>cases qOk y.2.2.1 true<;>simp
 | succ i=>
  have hp:l[i]? =some (l[i]'(by omega)):=aM (by omega)
  have ep:Em l (i+1) y=(Op.bytesLess y.1 (l[i]'(by omega)).1||y.1==(l[i]'(by omega)).1):=by simp only[Em,hp]
  have hpos:decide (((i+1:Nat):Int)>0)=true:=by simp
  rw[Ab (by omega) hl,hp,ep,hpos]
  simp only[ajq,ajE]
  generalize (Op.bytesLess y.1 (l[i]'(by omega)).1||y.1==(l[i]'(by omega)).1)=p
  cases lbl y.1<;>cases qOk y.2.2.1 true<;>cases p<;>simp
end Go.Md
namespace Go.Md
open Go.Dn
def par (l:List aa) (k:Nat):Option Nat:=match l[k]? with
 | some p=>if p.2.1=[] then none else jK (·.1) p.2.1 l
 | none=>none
theorem ID {l:List aa} {k k':Nat} (h:par l k=some k'):k'<l.length:=by
 unfold par at h
 split at h
 ·split at h
  ·cases h
  ·obtain⟨x,hx,_⟩:=zZ h
   exact (ahQ.1 hx).1
 ·cases h
def M8 (l:List aa):Prop:=∀ p∈l,p.2.1=[]∨(jK (·.1) p.2.1 l).isSome=true
theorem T8 {l:List aa} {k:Nat} {p:aa} (h1:M8 l) (hp:l[k]? =some p):(p.2.1=[]∧par l k=none)∨(p.2.1≠[]∧∃ k',par l k=some k'∧jK (·.1) p.2.1 l=some k'):=by
 unfold par
 rw[hp]
 dsimp only
 by_cases h:p.2.1=[]
 ·exact .inl ⟨h,by rw[ajQ h]⟩
 ·right
  rw[ajP h]
  rcases h1 p (air hp) with h2 | h2
  ·exact absurd h2 h
  ·obtain⟨k',hk'⟩:=ajt.1 h2
   exact⟨h,k',hk',hk'⟩
def xV (l:List aa):Prop:=∀ k,k<l.length→¬ kV (par l) k
def qa (l:List aa) (i:Nat):List Nat:=anc (par l) l.length i
theorem OY {l:List aa} (h:xV l) {i:Nat} (hi:i<l.length):(qa l i).length<l.length:=aex (fun _ _=>ID) h hi
theorem Ll {l:List aa} (h:xV l) {i k:Nat} (hi:i<l.length) (hp:par l i=some k):qa l i=k::qa l k:=by
 have h1:=OY h hi
 unfold qa at*
 rw[← Ux h1 (show l.length≤l.length+1 by omega),BP hp]
theorem Uw {l:List aa} {i:Nat} (hp:par l i=none):qa l i=[]:=OZ hp _
theorem aax {l:List aa} (h:xV l) {i:Nat} (hi:i<l.length):(i::qa l i).Nodup:=Lm (fun _ _=>ID) h hi
def cI (l:List Nat):List Int:=l.map (fun n:Nat=>(n:Int))
theorem abL {l:List Nat} {x:Nat}:(x:Int)∈cI l↔x∈l:=by
 unfold cI
 rw[aip]
 constructor
 ·rintro⟨a,h1,h2⟩;have:a=x:=by omega
  exact this ▸ h1
 ·intro h;exact⟨x,h,rfl⟩
theorem jP (l:List Nat):(cI l).length=l.length:=by simp[cI]
theorem P6 (a:di) (hl:a.2.2.2.length≤500) (hs:Asc (·.1) a.2.2.2) (h1:M8 a.2.2.2) (i:Nat) (hi:i<a.2.2.2.length):
 ∃ (out:List Nat) (ok:Bool),tG a (i:Int)=some (cI out,ok,())∧(ok=false↔kV (par a.2.2.2) i)∧(xV a.2.2.2→out=qa a.2.2.2 i):=by
 unfold tG
 have hat:=fun t=>DD a t (by omega) hs
 obtain⟨a1,a2,a3,l⟩:=a
 dsimp only at*
 have loop:∀ f,l.length+1<f→∃ (out:List Nat) (ok:Bool),(iter f (((i:Int),([]:List Int),(i:Int),a1,a2,a3,l,()):lB) sG=(if ok=true then (some (Sum.inr (cI out,())):Option jw) else some (Sum.inl (cI out,false,())))∨(ok=true∧iter f (((i:Int),([]:List Int),(i:Int),a1,a2,a3,l,()):lB) sG=(some (Sum.inl (cI out,true,())):Option jw)))∧(ok=false↔kV (par l) i)∧(xV l→out=qa l i):=by
  intro f hf
  refine zX (Inv:=fun X=>∃ (out:List Nat) (k:Nat),X=(((i:Int),cI out,(k:Int),a1,a2,a3,l,()):lB)∧k<l.length∧out.Nodup∧(∀ x∈out,x<l.length)∧(∃ j,itp (par l) j i=some k)∧(kV (par l) i→∃ d,zh (par l) i k d∧∀ x∈out,∃ e,d≤e∧zh (par l) i x e)∧(xV l→out++qa l k=qa l i))
   (fun X=>l.length+1 - X.2.1.length)
   (fun _ r=>∃ (out:List Nat) (ok:Bool),(r=(if ok=true then (some (Sum.inr (cI out,())):Option jw) else some (Sum.inl (cI out,false,())))∨(ok=true∧r=(some (Sum.inl (cI out,true,())):Option jw)))∧(ok=false↔kV (par l) i)∧(xV l→out=qa l i)) ?_ f _
   ⟨[],i,rfl,hi,by simp,by simp,⟨0,rfl⟩,fun hon=>by obtain⟨d,hd⟩:=hon.adD;exact⟨d,hd,by simp⟩,fun _=>by simp⟩ (by dsimp only;simp;omega)
  rintro _ again ⟨out,k,rfl,hk,hnd,hlt,⟨j,hj⟩,hon,hno⟩ ih
  dsimp only at ih
  have hlen:=Dm l.length out hnd hlt
  unfold sG
  dsimp only
  have hy:l[k]? =some l[k]:=aM hk
  generalize l[k]=p at hy
  rw[aV,hy,ajq,ajq]
  rcases T8 h1 hy with ⟨g1,g2⟩ | ⟨g1,k',g2,g3⟩
  ·rw[g1]
   refine⟨out,true,.inl rfl, ?_,fun hn=> ?_⟩
   ·constructor
    ·intro h;cases h
    ·intro h
     obtain⟨d,hd,_⟩:=hon h
     obtain⟨k',e,_⟩:=hd.step
     rw[g2] at e;cases e
   ·have:=hno hn
    rw[Uw g2,ahl] at this
    exact this
  ·have hk':=ID g2
   rw[show (!(p.2.1==[]))=true by cases hp:p.2.1<;>simp_all,ajE]
   obtain⟨q,hq1,hq2⟩:=hat p.2.1
   have:q=k':=hq2 k' g3
   subst this
   rw[hq1,ajq]
   dsimp only
   by_cases e1:q=i
   ·subst e1
    rw[show ((q:Int)==(q:Int))=true by simp,ajE]
    have hloop:kV (par l) q:=⟨j,by rw[Is (b:=1) hj];simp[itp,g2]⟩
    exact⟨[],false,.inl rfl,⟨fun _=>hloop,fun _=>rfl⟩,fun hn=>absurd hloop (hn q hi)⟩
   ·rw[show ((q:Int)==(i:Int))=false by rw[ajz];omega,ajD,yg _ _ (by rw[jP];omega),ajq]
    by_cases e2:q∈out
    ·rw[ajI (abL.2 e2),ajE]
     refine⟨out,true,.inr ⟨rfl,rfl⟩,⟨fun h=>(by cases h),fun h=> ?_⟩,fun hn=> ?_⟩
     ·obtain⟨d,hd,hx⟩:=hon h
      obtain⟨k2,e,h2⟩:=hd.step
      rw[g2] at e;cases e
      rcases h2 with ⟨h2,_⟩ | ⟨_,e,he,h3⟩
      ·exact absurd h2 e1
      ·obtain⟨f',hf',hx'⟩:=hx q e2
       have:=h3.uniq hx'
       omega
     ·exfalso
      have h3:=hno hn
      have h4:=(aix.1 (aax hn hi)).2
      rw[← h3,Ll hn hk g2,List.nodup_append] at h4
      exact h4.2.2 q e2 q (by simp) rfl
    ·rw[ajG (fun h=>e2 (abL.1 h)),ajD,aC (qU (by rw[jP];omega) (by rw[jP];omega))]
     refine ih _ ⟨out++[q],q,by simp[cI],hk', ?_, ?_,⟨j+1, ?_⟩,fun h=> ?_,fun hn=> ?_⟩ (by simp[jP];omega)
     ·rw[List.nodup_append]
      exact⟨hnd,by simp,fun x hx y hy=>by simp at hy;subst hy;exact fun e=>e2 (e ▸ hx)⟩
     ·intro x hx
      rcases aii.1 hx with hx | hx
      ·exact hlt x hx
      ·simp at hx;omega
     ·rw[Is (b:=1) hj];simp[itp,g2]
     ·obtain⟨d,hd,hx⟩:=hon h
      obtain⟨k2,e,h2⟩:=hd.step
      rw[g2] at e;cases e
      rcases h2 with ⟨h2,_⟩ | ⟨_,e,he,h3⟩
      ·exact absurd h2 e1
      ·refine⟨e,h3,fun x hx2=> ?_⟩
       rcases aii.1 hx2 with hx2 | hx2
       ·obtain⟨f',hf',hx'⟩:=hx x hx2;exact⟨f',by omega,hx'⟩
       ·simp at hx2;subst hx2;exact⟨e,ai0 _,h3⟩
     ·rw[← hno hn,Ll hn hk g2,ahk];rfl
 obtain⟨out,ok,h2,h3,h4⟩:=loop (Int.natAbs (i:Int)+(List.length ([]:List Int)+(Int.natAbs (i:Int)+(List.length a1+(List.length a2+(Int.natAbs a3+(List.length l+2))))))) (by omega)
 refine⟨out,ok, ?_,h3,h4⟩
 rcases h2 with h2 | ⟨h5,h2⟩
 ·rw[h2]
  cases ok<;>rfl
 ·rw[h2,h5];rfl
end Go.Md
namespace Go.Md
open Go.Dn
theorem Yn (l:List aa) (hl:l.length≤500) (h1:M8 l) (i:Nat) (hi:i<l.length):∃ b:Bool,GG l (i:Int)=some (b,())∧(b=true↔kV (par l) i):=by
 unfold GG
 have loop:∀ f,l.length<f→∃ b:Bool,iter f ((l,(i:Int),(i:Int),(l.length:Int),(0:Int),()):rD) vQ=(if b=true then some (Sum.inl (true,())) else some (Sum.inr ()))∧(b=true↔kV (par l) i)∨
  iter f ((l,(i:Int),(i:Int),(l.length:Int),(0:Int),()):rD) vQ=some (Sum.inl (false,()))∧¬ kV (par l) i:=by
  intro f hf
  refine bf (Inv:=fun c X=>∃ k:Nat,X=((l,(i:Int),(k:Int),(l.length:Int),(c:Int),()):rD)∧k<l.length∧itp (par l) c i=some k∧∀ e,e<c→itp (par l) (e+1) i≠some i) l.length
   (fun r=>∃ b:Bool,r=(if b=true then some (Sum.inl (true,())) else some (Sum.inr ()))∧(b=true↔kV (par l) i)∨r=some (Sum.inl (false,()))∧¬ kV (par l) i) ?_ ?_ f 0 _ ⟨i,rfl,hi,rfl,fun e h=>absurd h (ajg _)⟩ (by omega) (by omega)
  ·rintro c _ again hc ⟨k,rfl,hk,hit,hne⟩ ih
   unfold vQ
   dsimp only
   have hy:l[k]? =some l[k]:=aM hk
   generalize l[k]=p at hy
   rw[ax (by omega),aV,hy,ajq,ajq]
   rcases T8 h1 hy with ⟨g1,g2⟩ | ⟨g1,k',g2,g3⟩
   ·rw[g1]
    refine⟨false,.inr ⟨rfl,fun hon=> ?_⟩⟩
    obtain⟨d,hd⟩:=hon.adD
    rcases ai4 d c with h | h
    ·exact hne d h hd.1
    ·have:=hd.1
     rw[show d+1=c+(d - c+1) by omega,Is hit] at this
     simp[itp,g2] at this
   ·have hk':=ID g2
    rw[show (p.2.1==[])=false by cases hp:p.2.1<;>simp_all,ajD,uT l _ (by omega),g3,ajq]
    dsimp only[ixI]
    have hit':itp (par l) (c+1) i=some k':=by rw[Is hit];simp[itp,g2]
    by_cases e1:k'=i
    ·subst e1
     rw[show ((k':Int)==(k':Int))=true by simp,ajE]
     exact⟨true,.inl ⟨rfl,⟨fun _=>⟨c,hit'⟩,fun _=>rfl⟩⟩⟩
    ·rw[show ((k':Int)==(i:Int))=false by rw[ajz];omega,ajD,aq (by omega) (by omega)]
     refine ih _ ⟨k',rfl,hk',hit',fun e he=> ?_⟩
     rcases ai6.1 he with h | h
     ·exact hne e h
     ·subst h;rw[hit'];simpa using e1
  ·rintro _ again ⟨k,rfl,hk,hit,hne⟩
   unfold vQ
   dsimp only
   rw[av (by omega)]
   refine⟨false,.inl ⟨rfl,⟨fun h=>(by cases h),fun hon=> ?_⟩⟩⟩
   obtain⟨d,hd⟩:=hon.adD
   have:=hd.le (fun _ _=>ID) hi
   exact absurd hd.1 (hne d (by omega))
 obtain⟨b,h⟩:=loop (List.length l+(Int.natAbs (i:Int)+(Int.natAbs (i:Int)+(Int.natAbs ((List.length l:Int))+(Int.natAbs (0:Int)+2))))) (by omega)
 rcases h with ⟨h2,h3⟩ | ⟨h2,h3⟩
 ·exact⟨b,by rw[h2];cases b<;>rfl,h3⟩
 ·exact⟨false,by rw[h2];rfl,⟨fun h=>(by cases h),fun h=>absurd h h3⟩⟩
theorem ac6 (l:List aa) (hl:l.length≤500) (h1:M8 l) (hn:xV l) (i:Nat) (hi:i<l.length):R5 l (i:Int)=some (cI (i::qa l i),true,()):=by
 unfold R5
 have loop:∀ f,l.length<f→iter f ((l,(i:Int),[(i:Int)],()):DG) MP=some (Sum.inr (cI (i::qa l i),())):=by
  intro f hf
  refine zX (Inv:=fun X=>∃ (pre:List Nat) (k:Nat),X=((l,(k:Int),cI pre,()):DG)∧k<l.length∧pre++qa l k=i::qa l i) (fun X=>l.length+1 - X.2.2.1.length)
   (fun _ r=>r=some (Sum.inr (cI (i::qa l i),()))) ?_ f _ ⟨[i],i,rfl,hi,rfl⟩ (by dsimp only;simp;omega)
  rintro _ again ⟨pre,k,rfl,hk,hpre⟩ ih
  dsimp only at ih
  have hlen:pre.length+(qa l k).length=(qa l i).length+1:=by
   have:=congrArg List.length hpre
   simpa using this
  have hlt:=OY hn hi
  unfold MP
  dsimp only
  have hy:l[k]? =some l[k]:=aM hk
  generalize l[k]=p at hy
  rw[aV,hy,ajq,ajq]
  rcases T8 h1 hy with ⟨g1,g2⟩ | ⟨g1,k',g2,g3⟩
  ·rw[g1]
   rw[Uw g2,ahl] at hpre
   rw[hpre]
   rfl
  ·have hk':=ID g2
   rw[show (!(p.2.1==[]))=true by cases hp:p.2.1<;>simp_all,ajE,uT l _ (by omega),g3,ajq]
   dsimp only[ixI]
   rw[av (by rw[jP];omega),aC (qU (by rw[jP];omega) (by rw[jP];omega))]
   refine ih _ ⟨pre++[k'],k',by simp[cI],hk', ?_⟩ (by simp[jP];omega)
   rw[← hpre,Ll hn hk g2,ahk];rfl
 rw[loop _ (by simp only[ah1,ah4];omega),aB]
def n1 (l:List aa) (p:aa):Int:=if p.2.1≠[]∧(jK (·.1) p.2.1 l).isSome=false then 9 else 0
open Classical in
noncomputable def n2 (l:List aa) (i:Nat):Int:=if kV (par l) i then 17 else 0
def n3 (l:List aa) (i:Nat):Int:=if 5<(qa l i).length then 2 else 0
def XU (l:List aa):Int:=cD (fun _ p=>n1 l p) 0 l
noncomputable def XV (l:List aa):Int:=cD (fun i _=>n2 l i) 0 l
def aft (l:List aa):Int:=cD (fun i _=>n3 l i) 0 l
noncomputable def Nv (l:List aa):Int:=if XU l≠0 then XU l else if XV l≠0 then XV l else aft l
theorem Hq {l:List aa} (h:XU l=0):M8 l:=by
 intro p hp
 obtain⟨i,hi⟩:=aio.1 hp
 have:=lQ h i p hi
 unfold n1 at this
 by_cases h1:p.2.1=[]
 ·exact .inl h1
 ·cases h2:(jK (fun x:aa=>x.1) p.2.1 l).isSome with
  | true=>exact .inr rfl
  | false=>rw[ajQ ⟨h1,h2⟩] at this;omega
theorem Hr {l:List aa} (h:XV l=0):xV l:=by
 intro k hk hon
 have:=lQ h k l[k] (aM hk)
 unfold n2 at this
 rw[ajn,ajQ hon] at this
 omega
theorem IS {γ:Type} (s:Int) (u:γ) (k:γ→Option (Int×Unit)) (z:Int) (hk:s=0→k u=some (z,())):aK (β:=Int×Unit) (γ:=γ) (if s=0 then some (Sum.inr u) else some (Sum.inl (s,()))) k=some (if s≠0 then s else z,()):=by
 by_cases h:s=0
 ·rw[ajQ h,aB,hk h,ajP (by simpa using h)]
 ·rw[ajP h,bO,ajQ h]
theorem adi {γ:Type} (s:Int) (u:γ):aK (β:=Int×Unit) (γ:=γ) (if s=0 then some (Sum.inr u) else some (Sum.inl (s,()))) (fun _=>some (0,()))=some (s,()):=GN s u
theorem K7 (a:di) (hl:a.2.2.2.length≤500) (hs:Asc (·.1) a.2.2.2):sI a=some (Nv a.2.2.2,()):=by
 unfold sI Nv
 have hat:=fun t=>DD a t (by omega) hs
 have har:=fun h1 i hi=>P6 a hl hs h1 i hi
 obtain⟨a1,a2,a3,l⟩:=a
 dsimp only at*
 rw[fO (f:=nR) (fun i=>((l,(l.length:Int),(i:Int),a1,a2,a3,l,()):nT)) l (fun _ p=>n1 l p) (a1,a2,a3,l,()) ?_ ?_ ?_ _ ?_]
 ·refine IS _ _ _ _ fun z1=> ?_
  have h1:=Hq z1
  dsimp only
  rw[fO (f:=nS) (fun i=>(((l.length:Int),(i:Int),a1,a2,a3,l,()):nU)) l (fun i _=>n2 l i) (a1,a2,a3,l,()) ?_ ?_ ?_ _ ?_]
  ·refine IS _ _ _ _ fun z2=> ?_
   have h2:=Hr z2
   dsimp only
   rw[fO (f:=mT) (fun i=>(((l.length:Int),(i:Int),a1,a2,a3,l,()):mU)) l (fun i _=>n3 l i) () ?_ ?_ ?_ _ ?_]
   ·exact adi _ _
   ·rfl
   ·intro i y again hy
    have hi:=(ahQ.1 hy).1
    unfold mT
    dsimp only
    obtain⟨out,ok,g1,g2,g3⟩:=har h1 i hi
    rw[ax (by omega),g1,ajq,aq (by omega) (by omega)]
    dsimp only
    rw[g3 h2,jP]
    unfold n3
    by_cases h5:5<(qa l i).length
    ·rw[ax (by omega),ajQ h5,ajP (by omega)]
    ·rw[av (by omega),ajP h5,ajQ rfl];rfl
   ·intro again
    unfold mT
    dsimp only
    rw[av (by omega)]
   ·omega
  ·rfl
  ·intro i y again hy
   have hi:=(ahQ.1 hy).1
   unfold nS
   dsimp only
   obtain⟨out,ok,g1,g2,g3⟩:=har h1 i hi
   rw[ax (by omega),g1,ajq,aq (by omega) (by omega)]
   dsimp only
   unfold n2
   by_cases hon:kV (par l) i
   ·rw[g2.2 hon,ajQ hon,ajP (by omega)];rfl
   ·have:ok=true:=by
     cases ok with
     | true=>rfl
     | false=>exact absurd (g2.1 rfl) hon
    rw[this,ajP hon,ajQ rfl];rfl
  ·intro again
   unfold nS
   dsimp only
   rw[av (by omega)]
  ·omega
 ·rfl
 ·intro i y again hy
  have hi:=(ahQ.1 hy).1
  unfold nR
  dsimp only
  obtain⟨q,hq1,hq2⟩:=hat y.2.1
  rw[ax (by omega),aV,hy,ajq,hq1,ajq,aq (by omega) (by omega)]
  dsimp only
  by_cases e1:y.2.1=[]
  ·have hn:n1 l y=0:=by unfold n1;rw[ajP (fun h=>h.1 e1)]
   rw[hn,ajQ rfl,e1];rfl
  ·rw[show (!(y.2.1==[]))=true by cases hp:y.2.1<;>simp_all,ajE]
   cases h2:(jK (fun x:aa=>x.1) y.2.1 l).isSome with
   | true=>
    have hn:n1 l y=0:=by unfold n1;rw[ajP (fun h=>by rw[h2] at h;exact absurd h.2 (by simp))]
    rw[hn,ajQ rfl];rfl
   | false=>
    have hn:n1 l y=9:=by unfold n1;rw[ajQ ⟨e1,h2⟩]
    rw[hn,ajP (by omega)];rfl
 ·intro again
  unfold nR
  dsimp only
  rw[av (by omega)]
 ·omega
theorem Yo (l:List aa) (hl:l.length≤500):GH l=some (Nv l,()):=by
 unfold GH Nv
 rw[fO (f:=A4) (fun i=>((l,l,(l.length:Int),(i:Int),()):A6)) l (fun _ p=>n1 l p) (l,()) ?_ ?_ ?_ _ ?_]
 ·refine IS _ _ _ _ fun z1=> ?_
  have h1:=Hq z1
  dsimp only
  rw[fO (f:=A5) (fun i=>((l,(l.length:Int),(i:Int),()):A7)) l (fun i _=>n2 l i) (l,()) ?_ ?_ ?_ _ ?_]
  ·refine IS _ _ _ _ fun z2=> ?_
   have h2:=Hr z2
   dsimp only
   rw[fO (f:=yN) (fun i=>((l,(l.length:Int),(i:Int),()):yO)) l (fun i _=>n3 l i) () ?_ ?_ ?_ _ ?_]
   ·exact adi _ _
   ·rfl
   ·intro i y again hy
    have hi:=(ahQ.1 hy).1
    have hlt:=OY h2 hi
    unfold yN
    dsimp only
    rw[ax (by omega),ac6 l hl h1 h2 i hi,ajq,aq (n:=(i:Int)+1) (by omega) (by omega)]
    dsimp only
    rw[agP,ajD,jP,ah1,aq (by omega) (by omega)]
    unfold n3
    by_cases h5:5<(qa l i).length
    ·rw[ax (by omega),ajQ h5,ajP (by omega)]
    ·rw[av (by omega),ajP h5,ajQ rfl];rfl
   ·intro again
    unfold yN
    dsimp only
    rw[av (by omega)]
   ·omega
  ·rfl
  ·intro i y again hy
   have hi:=(ahQ.1 hy).1
   unfold A5
   dsimp only
   obtain⟨b,g1,g2⟩:=Yn l hl h1 i hi
   rw[ax (by omega),g1,ajq,aq (by omega) (by omega)]
   dsimp only
   unfold n2
   by_cases hon:kV (par l) i
   ·rw[g2.2 hon,ajQ hon,ajP (by omega)];rfl
   ·have:b=false:=by
     cases b with
     | false=>rfl
     | true=>exact absurd (g2.1 rfl) hon
    rw[this,ajP hon,ajQ rfl];rfl
  ·intro again
   unfold A5
   dsimp only
   rw[av (by omega)]
  ·omega
 ·rfl
 ·intro i y again hy
  have hi:=(ahQ.1 hy).1
  unfold A4
  dsimp only
  rw[ax (by omega),aV,hy,ajq,uT l _ (by omega),ajq,aq (by omega) (by omega)]
  dsimp only
  rw[Z0]
  by_cases e1:y.2.1=[]
  ·have hn:n1 l y=0:=by unfold n1;rw[ajP (fun h=>h.1 e1)]
   rw[hn,ajQ rfl,e1];rfl
  ·rw[show (!(y.2.1==[]))=true by cases hp:y.2.1<;>simp_all,ajE]
   cases h2:(jK (fun x:aa=>x.1) y.2.1 l).isSome with
   | true=>
    have hn:n1 l y=0:=by unfold n1;rw[ajP (fun h=>by rw[h2] at h;exact absurd h.2 (by simp))]
    rw[hn,ajQ rfl];rfl
   | false=>
    have hn:n1 l y=9:=by unfold n1;rw[ajQ ⟨e1,h2⟩]
    rw[hn,ajP (by omega)];rfl
 ·intro again
  unfold A4
  dsimp only
  rw[av (by omega)]
 ·omega
noncomputable def qS (a:di):Int:=
 if eH a.1=false then 5 else if eH a.2.1=false then 5 else if ¬(1≤a.2.2.1∧a.2.2.1≤3652059) then 1
 else if 500<a.2.2.2.length then 2 else if cD (qE a.2.2.2) 0 a.2.2.2≠0 then cD (qE a.2.2.2) 0 a.2.2.2 else Nv a.2.2.2
theorem Lw {l:List aa} (h:cD (qE l) 0 l=0):Asc (·.1) l:=by
 have step:∀ i x y,l[i]? =some x→l[i+1]? =some y→Op.bytesLess x.1 y.1=true:=fun i x y hx hy=>by
  have:=lQ h (i+1) y hy
  rw[ajn] at this
  unfold qE at this
  split at this
  ·omega
  ·split at this
   ·omega
   ·rename_i h2
    have h3:Em l (i+1) y=false:=by simpa using h2
    simp only[Em,hx,agQ,ajz] at h3
    rcases oI x.1 y.1 with h1 | h1 | h1
    ·exact h1
    ·exact absurd h1.symm h3.2
    ·rw[h3.1] at h1;cases h1
 intro i j x y hij hx hy
 induction j generalizing y with
 | zero=>omega
 | succ j ih=>
  rcases ai6.1 hij with h1 | h1
  ·have hj:j<l.length:=by have:=(ahQ.1 hy).1;omega
   have hz:l[j]? =some l[j]:=aM hj
   exact gL (ih _ h1 hz) (step j _ y hz hy)
  ·subst h1;exact step i x y hx hy
def Sq (a:di):Prop:=∀ p∈a.2.2.2,p.1.length≤9223372036854775807
theorem IE (a:di) (hf:Sq a):oV a=some (qS a,()):=by
 unfold oV qS
 simp only[tu,XH,ajq]
 cases eH a.1 with
 | false=>rfl
 | true=>
 cases eH a.2.1 with
 | false=>rfl
 | true=>
 simp only[agP,ajD,Bool.true_eq_false,ajO]
 by_cases n_c1:¬(1≤a.2.2.1∧a.2.2.1≤3652059)
 ·rw[ajG n_c1,ajQ n_c1];rfl
 have c1:=Decidable.of_not_not n_c1
 rw[ajI c1,ajP (by simpa using c1),agP,ajD]
 by_cases c2:500<a.2.2.2.length
 ·rw[ax (by omega),ajQ c2]
 rw[av (by omega),ajP c2]
 obtain⟨a1,a2,a3,l⟩:=a
 dsimp only at*
 rw[fO (f:=mh) (fun i=>(((l.length:Int),(i:Int),a1,a2,a3,l,()):mj)) l (qE l) (a1,a2,a3,l,()) ?_ ?_ ?_ _ ?_]
 ·refine IS _ _ _ _ fun z=> ?_
  dsimp only
  rw[K7 (a1,a2,a3,l) (by dsimp only;omega) (Lw z),ajq]
 ·rfl
 ·intro i y again hy
  have hi:=(ahQ.1 hy).1
  unfold mh
  dsimp only
  rw[ax (by omega),IG l i y hy (by omega) (hf y (air hy)),ajq,aq (by omega) (by omega)]
  dsimp only
  by_cases hz:qE l i y=0
  ·rw[hz];rfl
  ·rw[show (qE l i y != 0)=true by simpa using hz,ajE,ajP hz]
 ·intro again
  unfold mh
  dsimp only
  rw[av (by omega)]
 ·omega
theorem MM (a:di) (hf:Sq a):uQ a=some (qS a,()):=by
 unfold uQ qS
 simp only[vW,ZA,ajq]
 cases eH a.1 with
 | false=>rfl
 | true=>
 cases eH a.2.1 with
 | false=>rfl
 | true=>
 simp only[agP,ajD,Bool.true_eq_false,ajO]
 by_cases n_c1:¬(1≤a.2.2.1∧a.2.2.1≤3652059)
 ·rw[ajG n_c1,ajQ n_c1];rfl
 have c1:=Decidable.of_not_not n_c1
 rw[ajI c1,ajP (by simpa using c1),agP,ajD]
 by_cases c2:500<a.2.2.2.length
 ·rw[ax (by omega),ajQ c2]
 rw[av (by omega),ajP c2]
 obtain⟨a1,a2,a3,l⟩:=a
 dsimp only at*
 rw[fO (f:=pF) (fun i=>((l,(l.length:Int),(i:Int),a1,a2,a3,l,()):pG)) l (qE l) (a1,a2,a3,l,()) ?_ ?_ ?_ _ ?_]
 ·refine IS _ _ _ _ fun z=> ?_
  dsimp only
  rw[Yo l (by omega),ajq]
 ·rfl
 ·intro i y again hy
  have hi:=(ahQ.1 hy).1
  unfold pF
  dsimp only
  rw[ax (by omega),aV,hy,ajq,IJ _ (hf y (air hy)),ajq]
  simp only[yL,J3,ajq,agO]
  have hw:w64 ((i:Int)+1)=((i+1:Nat):Int):=by rw[aq (by omega) (by omega)];omega
  rw[hw]
  unfold qE
  have fin:(bif oK y.2.2.2 != 0 then some (Sum.inl (oK y.2.2.2,())) else again (l,(l.length:Int),((i+1:Nat):Int),a1,a2,a3,l,()))=if oK y.2.2.2=0 then again (l,(l.length:Int),((i+1:Nat):Int),a1,a2,a3,l,()) else some (Sum.inl (oK y.2.2.2,())):=by
   by_cases hz:oK y.2.2.2=0
   ·rw[hz];rfl
   ·rw[show (oK y.2.2.2 != 0)=true by simpa using hz,ajE,ajP hz]
  rw[fin]
  cases i with
  | zero=>
   simp only[Em]
   cases lbl y.1<;>cases qOk y.2.2.1 true<;>simp
  | succ i=>
   have hp:l[i]? =some (l[i]'(by omega)):=aM (by omega)
   have ep:Em l (i+1) y=(Op.bytesLess y.1 (l[i]'(by omega)).1||y.1==(l[i]'(by omega)).1):=by simp only[Em,hp]
   have hpos:decide (((i+1:Nat):Int)>0)=true:=by simp
   rw[Ab (by omega) (by omega),hp,ep,hpos]
   simp only[ajq,ajE]
   generalize (Op.bytesLess y.1 (l[i]'(by omega)).1||y.1==(l[i]'(by omega)).1)=p
   cases lbl y.1<;>cases qOk y.2.2.1 true<;>cases p<;>simp
 ·intro again
  unfold pF
  dsimp only
  rw[av (by omega)]
 ·omega
end Go.Md
namespace Go.Md
open Go.Dn
structure afL (a:di):Prop where
 len:a.2.2.2.length≤500
 asc:Asc (·.1) a.2.2.2
 n1:M8 a.2.2.2
 nl:xV a.2.2.2
theorem CZ {a:di} (h:qS a=0):afL a:=by
 unfold qS at h
 split at h
 ·omega
 split at h
 ·omega
 split at h
 ·omega
 split at h
 ·omega
 split at h
 ·omega
 rename_i h1 h2
 have h3:cD (qE a.2.2.2) 0 a.2.2.2=0:=by omega
 unfold Nv at h
 split at h
 ·omega
 rename_i h4
 split at h
 ·omega
 rename_i h5
 exact⟨by omega,Lw h3,Hq (by omega),Hr (by omega)⟩
def lab (l:List aa) (i:Nat):List UInt8:=((l[i]?).map (·.1)).getD []
end Go.Md
