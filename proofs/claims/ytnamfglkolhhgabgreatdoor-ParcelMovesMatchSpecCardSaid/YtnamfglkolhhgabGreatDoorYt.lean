/-
  Plain facts: parcels. No condition.
-/
import Derived.Test.YtnamfglkolhhgabGreatDoorYp
import Derived.Test.YtnamfglkolhhgabGreatDoorYr
import Derived.Test.YtnamfglkolhhgabGreatDoorYn
set_option linter.all false
namespace Go.Md
open Go.Dn
theorem xR:∀ (n:Nat) (l:List Nat),l.Nodup→(∀ x∈l,x<n)→l.length≤n
 | 0,l,_,h=>by
  cases l with
  | nil=>simp
  | cons a r=>exact absurd (h a (by simp)) (abh _)
 | n+1,l,hd,h=>by
  by_cases hm:n∈l
  ·have h1:=xR n (l.erase n) (hd.erase n) (fun x hx=>by
    have:=(hd.mem_erase_iff).1 hx
    have:=h x this.2
    omega)
   rw[List.length_erase_of_mem hm] at h1
   omega
  ·have:=xR n l hd (fun x hx=>by
    have h2:=h x hx
    have:x≠n:=fun e=>hm (e ▸ hx)
    omega)
   omega
def itp (par:Nat→Option Nat):Nat→Nat→Option Nat
 | 0,i=>some i
 | j+1,i=>(par i).bind (itp par j)
theorem CU {par:Nat→Option Nat}:∀ {a b i k:Nat},itp par a i=some k→itp par (a+b) i=itp par b k
 | 0,b,i,k,h=>by simp only[itp,Option.some.injEq] at h;subst h;rw[abm]
 | a+1,b,i,k,h=>by
  simp only[itp] at h
  rw[show a+1+b=(a+b)+1 by omega]
  simp only[itp]
  cases hp:par i with
  | none=>rw[hp] at h;cases h
  | some j=>rw[hp] at h;exact CU (a:=a) (by simpa using h)
def iw (par:Nat→Option Nat) (i:Nat):Prop:=∃ j,itp par (j+1) i=some i
def tj (par:Nat→Option Nat) (i k d:Nat):Prop:=itp par (d+1) k=some i∧∀ e,e<d→itp par (e+1) k≠some i
theorem tj.uniq {par:Nat→Option Nat} {i k d e:Nat} (h:tj par i k d) (h':tj par i k e):d=e:=by
 rcases abe d e with h1 | h1 | h1
 ·exact absurd h.1 (h'.2 d h1)
 ·exact h1
 ·exact absurd h'.1 (h.2 e h1)
theorem tj.step {par:Nat→Option Nat} {i k d:Nat} (h:tj par i k d):∃ k',par k=some k'∧((k'=i∧d=0)∨(k'≠i∧∃ e,d=e+1∧tj par i k' e)):=by
 obtain⟨h1,h2⟩:=h
 simp only[itp] at h1
 cases hp:par k with
 | none=>rw[hp] at h1;cases h1
 | some k'=>
  rw[hp] at h1
  refine⟨k',rfl, ?_⟩
  cases d with
  | zero=>simp only[abo,itp,Option.some.injEq] at h1;exact .inl ⟨h1,rfl⟩
  | succ e=>
   right
   refine⟨fun e1=> ?_,e,rfl,by simpa using h1,fun f hf hx=> ?_⟩
   ·refine h2 0 (by omega) ?_
    simp only[itp,hp,abo,e1]
   ·refine h2 (f+1) (by omega) ?_
    rw[show f+1+1=(f+1)+1 from rfl]
    show (par k).bind (itp par (f+1))=some i
    rw[hp];exact hx
theorem iw.Wr {par:Nat→Option Nat} {i:Nat} (h:iw par i):∃ d,tj par i i d:=by
 obtain⟨j,hj⟩:=h
 induction j using Nat.strongRecOn with
 | _ j ih=>
  by_cases hx:∃ e,e<j∧itp par (e+1) i=some i
  ·obtain⟨e,h1,h2⟩:=hx;exact ih e h1 h2
  ·exact⟨j,hj,fun e he h2=>hx ⟨e,he,h2⟩⟩
theorem tj.list {par:Nat→Option Nat} {i n:Nat} (hn:∀ k k',par k=some k'→k'<n):∀ {d k:Nat},k<n→tj par i k d→∃ l:List Nat,l.length=d+1∧l.Nodup∧(∀ x∈l,x<n)∧∀ x∈l,∃ e,e≤d∧tj par i x e
 | 0,k,hk,h=>⟨[k],rfl,by simp,by simpa using hk,fun x hx=>by simp at hx;subst hx;exact⟨0,aa7 _,h⟩⟩
 | d+1,k,hk,h=>by
  obtain⟨k',h1,h2⟩:=h.step
  rcases h2 with ⟨_,h2⟩ | ⟨_,e,h2,h3⟩
  ·omega
  ·have:e=d:=by omega
   subst this
   obtain⟨l,l1,l2,l3,l4⟩:=tj.list hn (hn _ _ h1) h3
   refine⟨k::l,by simp[l1],aaJ.2 ⟨fun hm=> ?_,l2⟩,fun x hx=> ?_,fun x hx=> ?_⟩
   ·obtain⟨f,f1,f2⟩:=l4 k hm
    have:=f2.uniq h
    omega
   ·rcases aaw.1 hx with rfl | hx
    ·exact hk
    ·exact l3 x hx
   ·rcases aaw.1 hx with rfl | hx
    ·exact⟨e+1,aa7 _,h⟩
    ·obtain⟨f,f1,f2⟩:=l4 x hx;exact⟨f,by omega,f2⟩
theorem tj.le {par:Nat→Option Nat} {i n d k:Nat} (hn:∀ k k',par k=some k'→k'<n) (hk:k<n) (h:tj par i k d):d+1≤n:=by
 obtain⟨l,l1,l2,l3,_⟩:=h.list hn hk
 have:=xR n l l2 l3
 omega
def anc (par:Nat→Option Nat):Nat→Nat→List Nat
 | 0,_=>[]
 | f+1,i=>match par i with
  | none=>[]
  | some k=>k::anc par f k
theorem vG {par:Nat→Option Nat} {f i k:Nat} (h:par i=some k):anc par (f+1) i=k::anc par f k:=by simp[anc,h]
theorem IF {par:Nat→Option Nat} {i:Nat} (h:par i=none):∀ f,anc par f i=[]
 | 0=>rfl
 | f+1=>by simp[anc,h]
theorem S5 {par:Nat→Option Nat}:∀ {f i x:Nat},x∈anc par f i→∃ j,j<f∧itp par (j+1) i=some x
 | 0,_,_,h=>by simp[anc] at h
 | f+1,i,x,h=>by
  cases hp:par i with
  | none=>simp[anc,hp] at h
  | some k=>
   rw[vG hp] at h
   rcases aaw.1 h with rfl | h
   ·exact⟨0,by omega,by simp[itp,hp]⟩
   ·obtain⟨j,h1,h2⟩:=S5 h
    exact⟨j+1,by omega,by show (par i).bind (itp par (j+1))=some x;rw[hp];exact h2⟩
theorem PG {par:Nat→Option Nat} {n:Nat} (hn:∀ k k',par k=some k'→k'<n):∀ {f i x:Nat},x∈anc par f i→x<n
 | 0,_,_,h=>by simp[anc] at h
 | f+1,i,x,h=>by
  cases hp:par i with
  | none=>simp[anc,hp] at h
  | some k=>
   rw[vG hp] at h
   rcases aaw.1 h with rfl | h
   ·exact hn _ _ hp
   ·exact PG hn h
theorem Fq {par:Nat→Option Nat} {n:Nat} (hn:∀ k k',par k=some k'→k'<n) (hl:∀ k,k<n→¬ iw par k):∀ {f i:Nat},i<n→(i::anc par f i).Nodup
 | 0,i,_=>by simp[anc]
 | f+1,i,hi=>by
  rw[aaJ]
  refine⟨fun hm=> ?_, ?_⟩
  ·obtain⟨j,_,hj⟩:=S5 hm
   exact hl i hi ⟨j,hj⟩
  ·cases hp:par i with
   | none=>simp[anc,hp]
   | some k=>
    rw[vG hp]
    exact Fq hn hl (hn _ _ hp)
theorem Xm {par:Nat→Option Nat} {n:Nat} (hn:∀ k k',par k=some k'→k'<n) (hl:∀ k,k<n→¬ iw par k) {f i:Nat} (hi:i<n):(anc par f i).length<n:=by
 have:=xR n (i::anc par f i) (Fq hn hl hi) (fun x hx=>by
  rcases aaw.1 hx with rfl | hx
  ·exact hi
  ·exact PG hn hx)
 simp at this;omega
theorem Nl {par:Nat→Option Nat}:∀ {f g i:Nat},(anc par f i).length<f→f≤g→anc par g i=anc par f i
 | 0,_,_,h,_=>by simp[anc] at h
 | f+1,g,i,h,hg=>by
  obtain⟨g,rfl⟩:∃ g',g=g'+1:=⟨g - 1,by omega⟩
  cases hp:par i with
  | none=>rw[IF hp,IF hp]
  | some k=>
   rw[vG hp] at h ⊢
   rw[vG hp]
   rw[Nl (f:=f) (by simpa using h) (by omega)]
end Go.Md
namespace Go.Md
open Go.Dn
theorem mK (l:List Int) (x:Int) (hl:l.length<1000000000):fq l x=some (decide (x∈l),()):=by
 unfold fq tK
 have loop:∀ f,l.length<f→∃ n:Int,iter f ((l,x,(l.length:Int),(0:Int),()):iC) kZ=(if x∈l then some (Sum.inl (n,())) else some (Sum.inr ()))∧0≤n:=by
  intro f hf
  refine bI (Inv:=fun i X=>X=((l,x,(l.length:Int),(i:Int),()):iC)∧∀ j y,j<i→l[j]? =some y→y≠x) l.length
   (fun r=>∃ n:Int,r=(if x∈l then some (Sum.inl (n,())) else some (Sum.inr ()))∧0≤n) ?_ ?_ f 0 _ ⟨rfl,fun _ _ h=>absurd h (abh _)⟩ (by omega) (by omega)
  ·rintro i _ again hi ⟨rfl,hb⟩ ih
   unfold kZ
   dsimp only
   have hy:l[i]? =some l[i]:=aJ hi
   generalize l[i]=y at hy
   rw[aB (by omega),bq,hy,abo]
   by_cases he:x=y
   ·rw[show (x==y)=true by simpa using he,abB]
    exact⟨i,by rw[abO (he ▸ aaC hy)],by omega⟩
   ·rw[show (x==y)=false by simpa using he,abA,aC (by omega) (by omega)]
    refine ih _ ⟨rfl,fun j z hj hz=> ?_⟩
    rcases abc.1 hj with h | h
    ·exact hb j z h hz
    ·subst h;rw[hy] at hz;cases hz;exact fun e=>he e.symm
  ·rintro _ again ⟨rfl,hb⟩
   unfold kZ
   dsimp only
   rw[aF (by omega)]
   refine⟨0, ?_,Zt _⟩
   rw[abN]
   intro hm
   obtain⟨j,hj⟩:=aaA.1 hm
   exact hb j x (Z6.1 hj).1 hj rfl
 obtain⟨n,h1,h2⟩:=loop (List.length l+(Int.natAbs x+(Int.natAbs ((List.length l:Int))+(Int.natAbs (0:Int)+2)))) (by omega)
 rw[h1]
 by_cases hm:x∈l
 ·rw[abO hm,gu,abo,abF hm]
  congr 2
  exact abF h2
 ·rw[abN hm,aM,abo,abD hm]
  rfl
def mZ (c:UInt8):Bool:=decide (48≤c.toNat)&&decide (c.toNat≤57)
theorem DC {c:UInt8}:(decide ((c.toNat:Int)<48)=false∧decide ((c.toNat:Int)>57)=false)↔mZ c=true:=by
 simp only[mZ,Zd,abG,abE]
 omega
theorem KO (s:List UInt8) (hs:s.length≤9223372036854775807):qu s=some (decide (s≠[])&&s.all mZ,()):=by
 unfold qu B0
 by_cases h0:s=[]
 ·subst h0;rfl
 ·rw[show (!(s==[]))=true by cases s<;>simp_all,abB,abF h0,Zr]
  have loop:∀ f,s.length<f→iter f ((s,(48:Int),(57:Int),(s.length:Int),(0:Int),()):nh) qY=(if s.all mZ=true then some (Sum.inr ()) else some (Sum.inl (false,()))):=by
   intro f hf
   refine bI (Inv:=fun i X=>X=((s,(48:Int),(57:Int),(s.length:Int),(i:Int),()):nh)∧(s.take i).all mZ=true) s.length
    (fun r=>r=(if s.all mZ=true then some (Sum.inr ()) else some (Sum.inl (false,())))) ?_ ?_ f 0 _ ⟨rfl,by simp⟩ (by omega) (by omega)
   ·rintro i _ again hi ⟨rfl,hb⟩ ih
    unfold qY
    dsimp only
    have hy:s[i]? =some s[i]:=aJ hi
    have hym:s[i]∈s:=aaf hi
    generalize s[i]=y at hy hym
    rw[aB (by omega),AG hy,abo,abo,aC (by omega) (by omega)]
    cases hd:mZ y with
    | true=>
     obtain⟨h1,h2⟩:=DC.2 hd
     rw[h1,h2,abA,abA]
     refine ih _ ⟨rfl, ?_⟩
     rw[jE hy]
     simp[hb,hd]
    | false=>
     have hall:s.all mZ=false:=by
      rw[List.all_eq_false]
      exact⟨y,hym,by simp[hd]⟩
     rw[hall]
     cases h1:decide ((y.toNat:Int)<48) with
     | true=>rfl
     | false=>
      cases h2:decide ((y.toNat:Int)>57) with
      | true=>rfl
      | false=>have:=DC.1 ⟨h1,h2⟩;rw[hd] at this;cases this
   ·rintro _ again ⟨rfl,hb⟩
    unfold qY
    dsimp only
    rw[aF (by omega)]
    rw[aaX (aa7 _)] at hb
    rw[abO hb]
  rw[loop _ (by omega)]
  cases s.all mZ<;>rfl
theorem MY (s:List UInt8) (hs:s.length≤9223372036854775807):ku s=some (decide (s≠[])&&s.all mZ,()):=by
 unfold ku
 by_cases h0:s=[]
 ·subst h0;rfl
 ·rw[show (s==[])=false by cases s<;>simp_all,abA,abF h0,Zr]
  have loop:∀ f,s.length<f→iter f ((s,(s.length:Int),(0:Int),()):ny) rC=(if s.all mZ=true then some (Sum.inr ()) else some (Sum.inl (false,()))):=by
   intro f hf
   refine bI (Inv:=fun i X=>X=((s,(s.length:Int),(i:Int),()):ny)∧(s.take i).all mZ=true) s.length
    (fun r=>r=(if s.all mZ=true then some (Sum.inr ()) else some (Sum.inl (false,())))) ?_ ?_ f 0 _ ⟨rfl,by simp⟩ (by omega) (by omega)
   ·rintro i _ again hi ⟨rfl,hb⟩ ih
    unfold rC
    dsimp only
    have hy:s[i]? =some s[i]:=aJ hi
    have hym:s[i]∈s:=aaf hi
    generalize s[i]=y at hy hym
    rw[aB (by omega),AG hy,abo,abo,aC (by omega) (by omega)]
    cases hd:mZ y with
    | true=>
     obtain⟨h1,h2⟩:=DC.2 hd
     rw[h1,h2,abA,abA]
     refine ih _ ⟨rfl, ?_⟩
     rw[jE hy]
     simp[hb,hd]
    | false=>
     have hall:s.all mZ=false:=by
      rw[List.all_eq_false]
      exact⟨y,hym,by simp[hd]⟩
     rw[hall]
     cases h1:decide ((y.toNat:Int)<48) with
     | true=>rfl
     | false=>
      cases h2:decide ((y.toNat:Int)>57) with
      | true=>rfl
      | false=>have:=DC.1 ⟨h1,h2⟩;rw[hd] at this;cases this
   ·rintro _ again ⟨rfl,hb⟩
    unfold rC
    dsimp only
    rw[aF (by omega)]
    rw[aaX (aa7 _)] at hb
    rw[abO hb]
  rw[loop _ (by omega)]
  cases s.all mZ<;>rfl
theorem ID (s:List UInt8) (hs:s.length≤100):∃ b,nL s=some (b,()):=by
 unfold nL
 have loop:∀ f,s.length<f→∃ n:Int,iter f ((s,(0:Int),(s.length:Int),(0:Int),()):qC) ve=some (Sum.inr (n,())):=by
  intro f hf
  refine bI (Inv:=fun i X=>∃ n:Int,X=((s,n,(s.length:Int),(i:Int),()):qC)) s.length
   (fun r=>∃ n:Int,r=some (Sum.inr (n,()))) ?_ ?_ f 0 _ ⟨0,rfl⟩ (by omega) (by omega)
  ·rintro i _ again hi ⟨n,rfl⟩ ih
   unfold ve
   dsimp only
   have e:w64 (w64 ((s.length:Int) - 1) - (i:Int))=((s.length - 1 - i:Nat):Int):=by
    rw[aC (n:=(s.length:Int) - 1) (by omega) (by omega),aC (by omega) (by omega)];omega
   have hy:s[s.length - 1 - i]? =some (s[s.length - 1 - i]'(by omega)):=aJ (by omega)
   rw[aB (by omega),e,AG hy,abo,aC (n:=(i:Int)+1) (by omega) (by omega)]
   cases (Int.tmod (i:Int) 2==1) with
   | true=>rw[abB];exact ih _ ⟨_,rfl⟩
   | false=>rw[abA];exact ih _ ⟨_,rfl⟩
  ·rintro _ again ⟨n,rfl⟩
   unfold ve
   dsimp only
   rw[aF (by omega)]
   exact⟨n,rfl⟩
 obtain⟨n,h⟩:=loop (List.length s+(Int.natAbs (0:Int)+(Int.natAbs ((List.length s:Int))+(Int.natAbs (0:Int)+2)))) (by omega)
 rw[h]
 exact⟨_,rfl⟩
def lbl (s:List UInt8):Bool:=decide (s.length=18)&&(s.all mZ&&((nL s).map (·.1)).getD false)
theorem Ib (s:List UInt8) (hs:s.length≤9223372036854775807):ri s=some (lbl s,()):=by
 unfold ri uw sj pR vF
 rw[qZ,abo,abo]
 dsimp only
 rw[show (!(!(decide ((3:Int)<1∨(5:Int)<3))))=false by decide,abA,show ((3:Int)==4)=false from rfl,show ((3:Int)==5)=false from rfl,show ((3:Int)==1)=false from rfl,show ((3:Int)==2)=false from rfl]
 simp only[abA,abo]
 rw[mK _ _ (by decide),abo,KO s hs]
 unfold lbl
 by_cases hl:s.length=18
 ·obtain⟨b,hb⟩:=ID s (by omega)
  have hb2:zL s=some (b,()):=hb
  have hne:s≠[]:=fun e=>by subst e;cases hl
  rw[abF (show (s.length:Int)∈[18] by simp;omega),abB,abo,abF hne,Zr,abF hl,Zr,hb2,hb]
  cases s.all mZ<;>simp
 ·rw[abD (show ¬ (s.length:Int)∈[18] by simp;omega),abD hl]
  rfl
theorem MV (s:List UInt8) (hs:s.length≤9223372036854775807):wU s=some (lbl s,()):=by
 unfold wU B9 GL Cc
 rw[vf,abo,abo]
 dsimp only
 rw[show (!(decide ((1:Int)≤3∧(3:Int)≤5)))=false by decide,abA,show ((3:Int)==1)=false from rfl,show ((3:Int)==2)=false from rfl,show ((3:Int)==3)=true from rfl]
 simp only[abA,abB]
 rw[MY s hs,abo]
 unfold lbl
 by_cases hl:s.length=18
 ·obtain⟨b,hb⟩:=ID s (by omega)
  have hne:s≠[]:=fun e=>by subst e;cases hl
  rw[abF hne,Zr,abF hl,Zr,hb,show ((s.length:Int)==18)=true by rw[hl];rfl]
  cases s.all mZ<;>simp
 ·rw[abD hl,show ((s.length:Int)==18)=false by rw[abx];omega]
  cases (decide (s≠[])&&s.all mZ)<;>rfl
def qOk (d:ai) (zero:Bool):Bool:=inR d 0 1000000000 3&&(!(d.1==0)||zero)
theorem K2 {d:ai} (hd:cK d):uN d 3 1000000000=some (inR d 0 1000000000 3,()):=by
 unfold uN
 have hp:=Bu d.2.toNat
 have hp2:(10:Int) ^ d.2.toNat≤1000000000:=by
  have:=abj (n:=10) (by omega) (show d.2.toNat≤9 by have:=hd.2.2;omega)
  have h2:=Int.ofNat_le.2 this
  simpa using h2
 rw[MN d.2 hd.2.1 (by have:=hd.2.2;omega)]
 have e:inR d 0 1000000000 3=(decide (d.2≤3)&&(decide (d.1≥0)&&decide (d.1≤1000000000*10 ^ d.2.toNat))):=by
  unfold inR
  rw[← Bool.decide_and, ← Bool.decide_and,abC,Int.zero_mul]
  constructor
  ·rintro⟨_,h2,h3,h4⟩;exact⟨h2,h3,h4⟩
  ·rintro⟨h2,h3,h4⟩;exact⟨hd,h2,h3,h4⟩
 rw[e,abo,aC (n:=1000000000*10 ^ d.2.toNat) (by omega) (by omega)]
 cases decide (d.2≤3)<;>cases decide (d.1≥0)<;>cases decide (d.1≤1000000000*10 ^ d.2.toNat)<;>rfl
theorem rV (d:ai) (z:Bool):cL d z=some (if qOk d z=true then 0 else 1,()):=by
 unfold cL qOk
 rw[A1,abo]
 by_cases hd:cK d
 ·rw[K2 hd,abO hd]
  dsimp only
  rw[show ((0:Int) != 0)=false from rfl,abA,abo]
  cases inR d 0 1000000000 3<;>cases (d.1==0)<;>cases z<;>rfl
 ·have:inR d 0 1000000000 3=false:=by unfold inR;simp[hd]
  simp[hd,this]
theorem ER (d:ai) (above:Bool):jZ d above=some (qOk d (!above),()):=by
 unfold jZ qOk
 rw[pJ,abo]
 by_cases hd:cK d
 ·have h2:cK (1000000000,0):=by decide
  have hc:Hz d (1000000000,0)=some ((tu d - tu (1000000000,0)).sign,()):=Ux hd h2
  have e9:tu (1000000000,0)=1000000000*10 ^ 9:=rfl
  have hs:decide ((tu d - tu (1000000000,0)).sign≤0)=decide (d.1≤1000000000*10 ^ d.2.toNat):=by
   rw[abC, ← Xq hd.2.1 hd.2.2, ← e9,Int.sign_nonpos_iff];omega
  rw[hc,abO hd]
  dsimp only
  rw[show ((0:Int)==0)=true from rfl,abB,abo]
  dsimp only
  rw[hs]
  have e:inR d 0 1000000000 3=(decide (d.2≤3)&&(decide (d.1≥0)&&decide (d.1≤1000000000*10 ^ d.2.toNat))):=by
   unfold inR
   rw[← Bool.decide_and, ← Bool.decide_and,abC,Int.zero_mul]
   constructor
   ·rintro⟨_,h2,h3,h4⟩;exact⟨h2,h3,h4⟩
   ·rintro⟨h2,h3,h4⟩;exact⟨hd,h2,h3,h4⟩
  have hz:(d.1==0)=(decide (d.1≥0)&& !decide (d.1>0)):=by
   by_cases h:d.1=0
   ·rw[show (d.1==0)=true by simpa using h,h];rfl
   ·rw[show (d.1==0)=false by simpa using h]
    by_cases h3:d.1>0
    ·simp[h3]
    ·have:¬ d.1≥0:=by omega
     simp[this]
  rw[e,hz]
  have himp:d.1>0→d.1≥0:=fun h=>by omega
  cases h5:decide (d.1>0)<;>cases decide (d.2≤3)<;>cases h6:decide (d.1≥0)<;>cases decide (d.1≤1000000000*10 ^ d.2.toNat)<;>cases above<;>simp_all
 ·have:inR d 0 1000000000 3=false:=by unfold inR;simp[hd]
  simp[hd,this]
end Go.Md
namespace Go.Md
open Go.Dn
theorem fe (l:List aa) (t:List UInt8) (hl:l.length<1000000000):eG l t=some (ixI (cn (·.1) t l),()):=by
 unfold eG
 have loop:∀ f,l.length<f→iter f ((t,l,(l.length:Int),(0:Int),()):l9) p8=(match cn (·.1) t l with | some k=>some (Sum.inl ((k:Int),())) | none=>some (Sum.inr ())):=by
  intro f hf
  refine bI (Inv:=fun i X=>X=((t,l,(l.length:Int),(i:Int),()):l9)∧∀ j x,j<i→l[j]? =some x→x.1≠t) l.length
   (fun r=>r=(match cn (·.1) t l with | some k=>some (Sum.inl ((k:Int),())) | none=>some (Sum.inr ()))) ?_ ?_ f 0 _ ⟨rfl,fun _ _ h=>absurd h (abh _)⟩ (by omega) (by omega)
  ·rintro i _ again hi ⟨rfl,hb⟩ ih
   unfold p8
   dsimp only
   have hy:l[i]? =some l[i]:=aJ hi
   generalize l[i]=y at hy
   rw[aB (by omega),bq,hy,abo]
   by_cases he:y.1=t
   ·rw[show (y.1==t)=true by simpa using he,abB]
    have:cn (·.1) t l=some i:=by
     unfold cn
     rw[List.findIdx?_eq_some_iff_getElem]
     refine⟨hi, ?_,fun j hj=> ?_⟩
     ·have:=(Z6.1 hy).2
      rw[this];simpa using he
     ·have:=hb j l[j] hj (Z4 _)
      simpa using this
    rw[this]
   ·rw[show (y.1==t)=false by simpa using he,abA,aC (by omega) (by omega)]
    refine ih _ ⟨rfl,fun j x hj hx=> ?_⟩
    rcases abc.1 hj with h | h
    ·exact hb j x h hx
    ·subst h;rw[hy] at hx;cases hx;exact he
  ·rintro _ again ⟨rfl,hb⟩
   unfold p8
   dsimp only
   rw[aF (by omega)]
   have:cn (·.1) t l=none:=by
    unfold cn
    rw[List.findIdx?_eq_none_iff]
    intro x hx
    obtain⟨j,hj⟩:=aaA.1 hx
    have:=hb j x (Z6.1 hj).1 hj
    simpa using this
   rw[this]
 rw[loop _ (by omega)]
 cases cn (·.1) t l<;>rfl
theorem LF (l:List aa) (t:List UInt8) (hl:l.length<1000000000) (hs:Asc (·.1) l):
 ∃ i:Nat,cq l t ()=some ((i:Int),(cn (·.1) t l).isSome,())∧∀ k,cn (·.1) t l=some k→i=k:=by
 unfold cq
 have loop:∀ f,l.length<f→∃ i:Nat,iter f ((l,t,(),(l.length:Int),(0:Int),(l.length:Int),()):bJ) dw=some (Sum.inr (l,t,(),(l.length:Int),(i:Int),()))∧i≤l.length∧(∀ k x,l[k]? =some x→k<i→Op.bytesLess x.1 t=true)∧∀ k x,l[k]? =some x→i≤k→Op.bytesLess x.1 t=false:=by
  intro f hf
  refine qs (Inv:=fun X=>∃ i j:Nat,X=((l,t,(),(l.length:Int),(i:Int),(j:Int),()):bJ)∧i≤j∧j≤l.length∧(∀ k x,l[k]? =some x→k<i→Op.bytesLess x.1 t=true)∧∀ k x,l[k]? =some x→j≤k→Op.bytesLess x.1 t=false)
   (fun X=>(X.2.2.2.2.2.1 - X.2.2.2.2.1).toNat)
   (fun _ r=>∃ i:Nat,r=some (Sum.inr (l,t,(),(l.length:Int),(i:Int),()))∧i≤l.length∧(∀ k x,l[k]? =some x→k<i→Op.bytesLess x.1 t=true)∧∀ k x,l[k]? =some x→i≤k→Op.bytesLess x.1 t=false) ?_ f _ ⟨0,l.length,rfl,by omega,by omega,fun _ _ _ h=>absurd h (abh _),fun k x hk hle=>by have:=(Z6.1 hk).1;omega⟩ (by dsimp only;omega)
  rintro _ again ⟨i,j,rfl,hij,hj,h1,h2⟩ ih
  dsimp only at ih
  unfold dw
  dsimp only
  by_cases hlt:i<j
  ·rw[aB (by omega)]
   have em:w64 (Int.fdiv (bH (w64 ((i:Int)+(j:Int)))) (2 ^ 1))=(((i+j) / 2:Nat):Int):=by
    rw[aC (n:=(i:Int)+(j:Int)) (by omega) (by omega),cH (by omega) (by omega),Zs _ (by omega),aC (by omega) (by omega)]
    omega
   rw[em]
   have hm:(i+j) / 2<l.length:=by omega
   have hy:l[(i+j) / 2]? =some l[(i+j) / 2]:=aJ hm
   have hmi:i≤(i+j) / 2∧(i+j) / 2<j:=by omega
   generalize (i+j) / 2=m at*
   generalize l[m]=y at hy
   rw[bq,hy,abo]
   show ∃ i,Option.bind (Option.bind (some (Lib.compareBytes y.1 t,())) fun r1=>some (r1.1,())) _=_∧_
   rw[abo,abo]
   dsimp only
   by_cases hc:Lib.compareBytes y.1 t<0
   ·rw[aB hc,aC (by omega) (by omega)]
    refine ih _ ⟨m+1,j,rfl,by omega,hj,fun k x hk hkm=> ?_,h2⟩ (by dsimp only;omega)
    rcases abc.1 hkm with h | h
    ·have:=hs k m x y h hk hy
     exact cQ this (jx.1 hc)
    ·subst h;rw[hy] at hk;cases hk;exact jx.1 hc
   ·rw[aF hc]
    refine ih _ ⟨i,m,rfl,by omega,by omega,h1,fun k x hk hkm=> ?_⟩ (by dsimp only;omega)
    have hc':Op.bytesLess y.1 t=false:=by
     cases h:Op.bytesLess y.1 t with
     | false=>rfl
     | true=>exact absurd (jx.2 h) hc
    rcases Nat.lt_or_eq_of_le hkm with h | h
    ·cases hx:Op.bytesLess x.1 t with
     | false=>rfl
     | true=>rw[cQ (hs m k y x h hy hk) hx] at hc';cases hc'
    ·subst h;rw[hy] at hk;cases hk;exact hc'
  ·rw[aF (by omega)]
   have:i=j:=by omega
   subst this
   exact⟨i,rfl,hj,h1,h2⟩
 obtain⟨i,h1,h2,h3,h4⟩:=loop (List.length l+(List.length t+(Int.natAbs ((List.length l:Int))+(Int.natAbs (0:Int)+(Int.natAbs ((List.length l:Int))+2))))) (by omega)
 refine⟨i, ?_,fun k hk=> ?_⟩
 ·rw[h1,aM]
  dsimp only
  by_cases hi:i<l.length
  ·have hy:l[i]? =some l[i]:=aJ hi
   generalize l[i]=y at hy
   rw[aB (by omega),bq,hy,abo]
   show Option.bind (Option.bind (some (Lib.compareBytes y.1 t,())) fun r1=>some (r1.1,())) _=_
   rw[abo,abo]
   congr 3
   by_cases he:y.1=t
   ·rw[Hr hs hy he,gp.2 he];rfl
   ·have hne:¬ Lib.compareBytes y.1 t=0:=fun h=>he (gp.1 h)
    rw[show (Lib.compareBytes y.1 t==0)=false by simpa using hne]
    cases hx:cn (·.1) t l with
    | none=>rfl
    | some k=>
     exfalso
     obtain⟨x,k1,k2⟩:=iR hx
     rcases abe k i with h | h | h
     ·have:=h3 k x k1 h;rw[k2,dD] at this;cases this
     ·subst h;rw[hy] at k1;cases k1;exact he k2
     ·have:=hs i k y x h hy k1
      dsimp only at this
      rw[k2,h4 i y hy (aa7 _)] at this;cases this
  ·rw[aF (by omega)]
   congr 3
   cases hx:cn (·.1) t l with
   | none=>rfl
   | some k=>
    exfalso
    obtain⟨x,k1,k2⟩:=iR hx
    have:=h3 k x k1 (by have:=(Z6.1 k1).1;omega)
    rw[k2,dD] at this;cases this
 ·obtain⟨x,k1,k2⟩:=iR hk
  rcases abe k i with h | h | h
  ·have:=h3 k x k1 h;rw[k2,dD] at this;cases this
  ·exact h.symm
  ·have hy:l[i]? =some (l[i]'(by have:=(Z6.1 k1).1;omega)):=aJ _
   have:=hs i k _ x h hy k1
   dsimp only at this
   rw[k2,h4 i _ hy (aa7 _)] at this;cases this
theorem dK (a:an) (t:List UInt8) (hl:a.2.2.2.length<1000000000) (hs:Asc (·.1) a.2.2.2):
 ∃ i:Nat,b6 a t=some ((i:Int),(cn (·.1) t a.2.2.2).isSome,())∧∀ k,cn (·.1) t a.2.2.2=some k→i=k:=by
 obtain⟨i,h1,h2⟩:=LF a.2.2.2 t hl hs
 exact⟨i,by unfold b6;rw[h1,abo],h2⟩
def bZ (a b:ah):Int:=bS (fun _ y=>y) 0 [Lib.compareBytes a.1 b.1,Lib.compareBytes a.2.1 b.2.1,Lib.compareBytes a.2.2.1 b.2.2.1]
theorem U5 (l:List Int) (hl:l.length<1000):yS l=some (bS (fun _ y=>y) 0 l,()):=by
 unfold yS
 rw[fM (f:=sw) (fun i=>(((0:Int),l,(l.length:Int),(i:Int),()):sA)) l (fun _ y=>y) (0,()) ?_ ?_ ?_ _ ?_]
 ·exact (Ys _ _ _ 0 rfl).trans (by
   by_cases h:bS (fun _ y=>y) 0 l=0
   ·rw[abN (by simpa using h),h]
   ·rw[abO h])
 ·rfl
 ·intro i y again hy
  have hi:=(Z6.1 hy).1
  unfold sw
  dsimp only
  rw[aB (by omega),bq,hy,abo,aC (by omega) (by omega)]
  by_cases h:y=0
  ·subst h;rfl
  ·rw[show (y != 0)=true by simpa using h,abB,abN h]
 ·intro again
  unfold sw
  dsimp only
  rw[aF (by omega)]
 ·omega
theorem jU (a b:ah):dn a b=some (bZ a b,()):=by
 unfold dn strings_Compare bZ
 simp only[abo]
 rw[U5 _ (by simp),abo]
theorem kW (a b:ah):fZ a b=some (bZ a b,()):=by
 unfold fZ strings_Compare bZ
 simp only[abo]
 generalize hL:[Lib.compareBytes a.1 b.1,Lib.compareBytes a.2.1 b.2.1,Lib.compareBytes a.2.2.1 b.2.2.1]=l
 have hl:l.length=3:=by subst hL;rfl
 rw[fM (f:=kV) (fun i=>((l,(l.length:Int),(i:Int),()):kX)) l (fun _ y=>y) () ?_ ?_ ?_ _ ?_]
 ·exact Px _ _
 ·rfl
 ·intro i y again hy
  have hi:=(Z6.1 hy).1
  unfold kV
  dsimp only
  rw[aB (by omega),bq,hy,abo,aC (by omega) (by omega)]
  by_cases h:y=0
  ·subst h;rfl
  ·rw[show (y != 0)=true by simpa using h,abB,abN h]
 ·intro again
  unfold kV
  dsimp only
  rw[aF (by omega)]
 ·omega
def uT (l:List ah) (i:Nat) (y:ah):Bool:=match i with
 | 0=>false
 | i+1=>match l[i]? with
  | some p=>decide (bZ p y≥0)
  | none=>false
def wR (l:List ah) (i:Nat) (c:ah):Int:=
 if jy c.1=false then 5 else if jy c.2.1=false then 5 else if (!(c.2.2.1==[])&& !jy c.2.2.1)=true then 5
 else if uT l i c=true then 8 else if qOk c.2.2.2 false=true then 0 else 1
def eY (l:List ah):Int:=if 100<l.length then 2 else bS (wR l) 0 l
theorem Bv {α:Type} {l:List α} {i:Nat} (hi:i<l.length) (hl:l.length<1000000000):idx l (w64 (((i+1:Nat):Int) - 1))=l[i]? :=by
 rw[aC (by omega) (by omega),show ((i+1:Nat):Int) - 1=((i:Nat):Int) by omega,bq]
theorem Bf (l:List ah):gP l=some (eY l,()):=by
 unfold gP eY
 by_cases hb:100<l.length
 ·rw[aB (by omega),abO hb]
 ·rw[aF (by omega),abN hb]
  rw[fM (f:=iq) (fun i=>((l,l,(l.length:Int),(i:Int),()):ir)) l (wR l) () ?_ ?_ ?_ _ ?_]
  ·exact Px _ _
  ·rfl
  ·intro i y again hy
   have hi:=(Z6.1 hy).1
   unfold iq
   dsimp only
   rw[aB (by omega),bq,hy,abo]
   simp only[EK,abo,rV,jU]
   have hw:w64 ((i:Int)+1)=((i+1:Nat):Int):=by rw[aC (by omega) (by omega)];omega
   rw[hw]
   unfold wR
   generalize qOk y.2.2.2 false=q
   cases i with
   | zero=>
    simp only[uT]
    cases jy y.1<;>cases jy y.2.1<;>cases (y.2.2.1==[])<;>cases jy y.2.2.1<;>cases q<;>simp
   | succ i=>
    have hp:l[i]? =some (l[i]'(by omega)):=aJ (by omega)
    have ep:uT l (i+1) y=decide (bZ (l[i]'(by omega)) y≥0):=by simp only[uT,hp]
    have hpos:decide (((i+1:Nat):Int)>0)=true:=by simp
    rw[Bv (by omega) (by omega),hp,ep,hpos]
    simp only[abo,abB]
    generalize decide (bZ (l[i]'(by omega)) y≥0)=p
    cases jy y.1<;>cases jy y.2.1<;>cases (y.2.2.1==[])<;>cases jy y.2.2.1<;>cases q<;>cases p<;>simp
  ·intro again
   unfold iq
   dsimp only
   rw[aF (by omega)]
  ·omega
theorem Ea (l:List ah):jN l=some (eY l,()):=by
 unfold jN eY
 by_cases hb:100<l.length
 ·rw[aB (by omega),abO hb]
 ·rw[aF (by omega),abN hb]
  rw[fM (f:=jX) (fun i=>((l,l,(l.length:Int),(i:Int),()):jY)) l (wR l) () ?_ ?_ ?_ _ ?_]
  ·exact Px _ _
  ·rfl
  ·intro i y again hy
   have hi:=(Z6.1 hy).1
   unfold jX
   dsimp only
   rw[aB (by omega),bq,hy,abo]
   simp only[GJ,abo,ER,kW,Zo]
   have hw:w64 ((i:Int)+1)=((i+1:Nat):Int):=by rw[aC (by omega) (by omega)];omega
   rw[hw]
   unfold wR
   generalize qOk y.2.2.2 false=q
   cases i with
   | zero=>
    simp only[uT]
    cases jy y.1<;>cases jy y.2.1<;>cases (y.2.2.1==[])<;>cases jy y.2.2.1<;>cases q<;>simp
   | succ i=>
    have hp:l[i]? =some (l[i]'(by omega)):=aJ (by omega)
    have ep:uT l (i+1) y=decide (bZ (l[i]'(by omega)) y≥0):=by simp only[uT,hp]
    have hpos:decide (((i+1:Nat):Int)>0)=true:=by simp
    rw[Bv (by omega) (by omega),hp,ep,hpos]
    simp only[abo,abB]
    generalize decide (bZ (l[i]'(by omega)) y≥0)=p
    cases jy y.1<;>cases jy y.2.1<;>cases (y.2.2.1==[])<;>cases jy y.2.2.1<;>cases q<;>cases p<;>simp
  ·intro again
   unfold jX
   dsimp only
   rw[aF (by omega)]
  ·omega
def sG (l:List aa) (i:Nat) (y:aa):Bool:=match i with
 | 0=>false
 | i+1=>match l[i]? with
  | some p=>Op.bytesLess y.1 p.1||y.1==p.1
  | none=>false
def gN (l:List aa) (i:Nat) (p:aa):Int:=
 if lbl p.1=false then 3 else if sG l i p=true then 8 else if qOk p.2.2.1 true=false then 1 else eY p.2.2.2
theorem C3 (l:List aa) (i:Nat) (y:aa) (hy:l[i]? =some y) (hl:l.length<1000000000) (hs:y.1.length≤9223372036854775807):lX l (i:Int)=some (gN l i y,()):=by
 have hi:=(Z6.1 hy).1
 unfold lX gN
 rw[bq,hy,abo,Ib _ hs]
 simp only[abo,rV,Bf]
 cases i with
 | zero=>
  simp only[sG]
  cases lbl y.1<;>cases qOk y.2.2.1 true<;>simp
 | succ i=>
  have hp:l[i]? =some (l[i]'(by omega)):=aJ (by omega)
  have ep:sG l (i+1) y=(Op.bytesLess y.1 (l[i]'(by omega)).1||y.1==(l[i]'(by omega)).1):=by simp only[sG,hp]
  have hpos:decide (((i+1:Nat):Int)>0)=true:=by simp
  rw[Bv (by omega) hl,hp,ep,hpos]
  simp only[abo,abB]
  generalize (Op.bytesLess y.1 (l[i]'(by omega)).1||y.1==(l[i]'(by omega)).1)=p
  cases lbl y.1<;>cases qOk y.2.2.1 true<;>cases p<;>simp
end Go.Md
namespace Go.Md
open Go.Dn
def par (l:List aa) (k:Nat):Option Nat:=match l[k]? with
 | some p=>if p.2.1=[] then none else cn (·.1) p.2.1 l
 | none=>none
theorem Ak {l:List aa} {k k':Nat} (h:par l k=some k'):k'<l.length:=by
 unfold par at h
 split at h
 ·split at h
  ·cases h
  ·obtain⟨x,hx,_⟩:=iR h
   exact (Z6.1 hx).1
 ·cases h
def Dk (l:List aa):Prop:=∀ p∈l,p.2.1=[]∨(cn (·.1) p.2.1 l).isSome=true
theorem Hw {l:List aa} {k:Nat} {p:aa} (h1:Dk l) (hp:l[k]? =some p):(p.2.1=[]∧par l k=none)∨(p.2.1≠[]∧∃ k',par l k=some k'∧cn (·.1) p.2.1 l=some k'):=by
 unfold par
 rw[hp]
 dsimp only
 by_cases h:p.2.1=[]
 ·exact .inl ⟨h,by rw[abO h]⟩
 ·right
  rw[abN h]
  rcases h1 p (aaC hp) with h2 | h2
  ·exact absurd h2 h
  ·obtain⟨k',hk'⟩:=abr.1 h2
   exact⟨h,k',hk',hk'⟩
def qh (l:List aa):Prop:=∀ k,k<l.length→¬ iw (par l) k
def eD (l:List aa) (i:Nat):List Nat:=anc (par l) l.length i
theorem zM {l:List aa} (h:qh l) {i:Nat} (hi:i<l.length):(eD l i).length<l.length:=Xm (fun _ _=>Ak) h hi
theorem Fp {l:List aa} (h:qh l) {i k:Nat} (hi:i<l.length) (hp:par l i=some k):eD l i=k::eD l k:=by
 have h1:=zM h hi
 unfold eD at*
 rw[← Nl h1 (show l.length≤l.length+1 by omega),vG hp]
theorem Nk {l:List aa} {i:Nat} (hp:par l i=none):eD l i=[]:=IF hp _
theorem Xl {l:List aa} {i x:Nat} (h:x∈eD l i):x<l.length:=PG (fun _ _=>Ak) h
theorem TQ {l:List aa} (h:qh l) {i:Nat} (hi:i<l.length):(i::eD l i).Nodup:=Fq (fun _ _=>Ak) h hi
def cI (l:List Nat):List Int:=l.map (fun n:Nat=>(n:Int))
theorem JX {l:List Nat} {x:Nat}:(x:Int)∈cI l↔x∈l:=by
 unfold cI
 rw[aaB]
 constructor
 ·rintro⟨a,h1,h2⟩;have:a=x:=by omega
  exact this ▸ h1
 ·intro h;exact⟨x,h,rfl⟩
theorem gD (l:List Nat):(cI l).length=l.length:=by simp[cI]
theorem Al (a:an) (hl:a.2.2.2.length≤500) (hs:Asc (·.1) a.2.2.2) (h1:Dk a.2.2.2) (i:Nat) (hi:i<a.2.2.2.length):
 ∃ (out:List Nat) (ok:Bool),jB a (i:Int)=some (cI out,ok,())∧(ok=false↔iw (par a.2.2.2) i)∧(qh a.2.2.2→out=eD a.2.2.2 i):=by
 unfold jB
 have hat:=fun t=>dK a t (by omega) hs
 obtain⟨a1,a2,a3,l⟩:=a
 dsimp only at*
 have loop:∀ f,l.length+1<f→∃ (out:List Nat) (ok:Bool),(iter f (((i:Int),([]:List Int),(i:Int),a1,a2,a3,l,()):iF) oc=(if ok=true then (some (Sum.inr (cI out,())):Option fW) else some (Sum.inl (cI out,false,())))∨(ok=true∧iter f (((i:Int),([]:List Int),(i:Int),a1,a2,a3,l,()):iF) oc=(some (Sum.inl (cI out,true,())):Option fW)))∧(ok=false↔iw (par l) i)∧(qh l→out=eD l i):=by
  intro f hf
  refine qs (Inv:=fun X=>∃ (out:List Nat) (k:Nat),X=(((i:Int),cI out,(k:Int),a1,a2,a3,l,()):iF)∧k<l.length∧out.Nodup∧(∀ x∈out,x<l.length)∧(∃ j,itp (par l) j i=some k)∧(iw (par l) i→∃ d,tj (par l) i k d∧∀ x∈out,∃ e,d≤e∧tj (par l) i x e)∧(qh l→out++eD l k=eD l i))
   (fun X=>l.length+1 - X.2.1.length)
   (fun _ r=>∃ (out:List Nat) (ok:Bool),(r=(if ok=true then (some (Sum.inr (cI out,())):Option fW) else some (Sum.inl (cI out,false,())))∨(ok=true∧r=(some (Sum.inl (cI out,true,())):Option fW)))∧(ok=false↔iw (par l) i)∧(qh l→out=eD l i)) ?_ f _
   ⟨[],i,rfl,hi,by simp,by simp,⟨0,rfl⟩,fun hon=>by obtain⟨d,hd⟩:=hon.Wr;exact⟨d,hd,by simp⟩,fun _=>by simp⟩ (by dsimp only;simp;omega)
  rintro _ again ⟨out,k,rfl,hk,hnd,hlt,⟨j,hj⟩,hon,hno⟩ ih
  dsimp only at ih
  have hlen:=xR l.length out hnd hlt
  unfold oc
  dsimp only
  have hy:l[k]? =some l[k]:=aJ hk
  generalize l[k]=p at hy
  rw[bq,hy,abo,abo]
  rcases Hw h1 hy with ⟨g1,g2⟩ | ⟨g1,k',g2,g3⟩
  ·rw[g1]
   refine⟨out,true,.inl rfl, ?_,fun hn=> ?_⟩
   ·constructor
    ·intro h;cases h
    ·intro h
     obtain⟨d,hd,_⟩:=hon h
     obtain⟨k',e,_⟩:=hd.step
     rw[g2] at e;cases e
   ·have:=hno hn
    rw[Nk g2,ZK] at this
    exact this
  ·have hk':=Ak g2
   rw[show (!(p.2.1==[]))=true by cases hp:p.2.1<;>simp_all,abB]
   obtain⟨q,hq1,hq2⟩:=hat p.2.1
   have:q=k':=hq2 k' g3
   subst this
   rw[hq1,abo]
   dsimp only
   by_cases e1:q=i
   ·subst e1
    rw[show ((q:Int)==(q:Int))=true by simp,abB]
    have hloop:iw (par l) q:=⟨j,by rw[CU (b:=1) hj];simp[itp,g2]⟩
    exact⟨[],false,.inl rfl,⟨fun _=>hloop,fun _=>rfl⟩,fun hn=>absurd hloop (hn q hi)⟩
   ·rw[show ((q:Int)==(i:Int))=false by rw[abx];omega,abA,mK _ _ (by rw[gD];omega),abo]
    by_cases e2:q∈out
    ·rw[abF (JX.2 e2),abB]
     refine⟨out,true,.inr ⟨rfl,rfl⟩,⟨fun h=>(by cases h),fun h=> ?_⟩,fun hn=> ?_⟩
     ·obtain⟨d,hd,hx⟩:=hon h
      obtain⟨k2,e,h2⟩:=hd.step
      rw[g2] at e;cases e
      rcases h2 with ⟨h2,_⟩ | ⟨_,e,he,h3⟩
      ·exact absurd h2 e1
      ·obtain⟨f',hf',hx'⟩:=hx q e2
       have:=h3.uniq hx'
       omega
     ·exfalso
      have h3:=hno hn
      have h4:=(aaJ.1 (TQ hn hi)).2
      rw[← h3,Fp hn hk g2,List.nodup_append] at h4
      exact h4.2.2 q e2 q (by simp) rfl
    ·rw[abD (fun h=>e2 (JX.1 h)),abA,aQ (kC (by rw[gD];omega) (by rw[gD];omega))]
     refine ih _ ⟨out++[q],q,by simp[cI],hk', ?_, ?_,⟨j+1, ?_⟩,fun h=> ?_,fun hn=> ?_⟩ (by simp[gD];omega)
     ·rw[List.nodup_append]
      exact⟨hnd,by simp,fun x hx y hy=>by simp at hy;subst hy;exact fun e=>e2 (e ▸ hx)⟩
     ·intro x hx
      rcases aau.1 hx with hx | hx
      ·exact hlt x hx
      ·simp at hx;omega
     ·rw[CU (b:=1) hj];simp[itp,g2]
     ·obtain⟨d,hd,hx⟩:=hon h
      obtain⟨k2,e,h2⟩:=hd.step
      rw[g2] at e;cases e
      rcases h2 with ⟨h2,_⟩ | ⟨_,e,he,h3⟩
      ·exact absurd h2 e1
      ·refine⟨e,h3,fun x hx2=> ?_⟩
       rcases aau.1 hx2 with hx2 | hx2
       ·obtain⟨f',hf',hx'⟩:=hx x hx2;exact⟨f',by omega,hx'⟩
       ·simp at hx2;subst hx2;exact⟨e,aa7 _,h3⟩
     ·rw[← hno hn,Fp hn hk g2,ZJ];rfl
 obtain⟨out,ok,h2,h3,h4⟩:=loop (Int.natAbs (i:Int)+(List.length ([]:List Int)+(Int.natAbs (i:Int)+(List.length a1+(List.length a2+(Int.natAbs a3+(List.length l+2))))))) (by omega)
 refine⟨out,ok, ?_,h3,h4⟩
 rcases h2 with h2 | ⟨h5,h2⟩
 ·rw[h2]
  cases ok<;>rfl
 ·rw[h2,h5];rfl
end Go.Md
namespace Go.Md
open Go.Dn
theorem Rp (l:List aa) (hl:l.length≤500) (h1:Dk l) (i:Nat) (hi:i<l.length):∃ b:Bool,Bx l (i:Int)=some (b,())∧(b=true↔iw (par l) i):=by
 unfold Bx
 have loop:∀ f,l.length<f→∃ b:Bool,iter f ((l,(i:Int),(i:Int),(l.length:Int),(0:Int),()):nx) qB=(if b=true then some (Sum.inl (true,())) else some (Sum.inr ()))∧(b=true↔iw (par l) i)∨
  iter f ((l,(i:Int),(i:Int),(l.length:Int),(0:Int),()):nx) qB=some (Sum.inl (false,()))∧¬ iw (par l) i:=by
  intro f hf
  refine bI (Inv:=fun c X=>∃ k:Nat,X=((l,(i:Int),(k:Int),(l.length:Int),(c:Int),()):nx)∧k<l.length∧itp (par l) c i=some k∧∀ e,e<c→itp (par l) (e+1) i≠some i) l.length
   (fun r=>∃ b:Bool,r=(if b=true then some (Sum.inl (true,())) else some (Sum.inr ()))∧(b=true↔iw (par l) i)∨r=some (Sum.inl (false,()))∧¬ iw (par l) i) ?_ ?_ f 0 _ ⟨i,rfl,hi,rfl,fun e h=>absurd h (abh _)⟩ (by omega) (by omega)
  ·rintro c _ again hc ⟨k,rfl,hk,hit,hne⟩ ih
   unfold qB
   dsimp only
   have hy:l[k]? =some l[k]:=aJ hk
   generalize l[k]=p at hy
   rw[aB (by omega),bq,hy,abo,abo]
   rcases Hw h1 hy with ⟨g1,g2⟩ | ⟨g1,k',g2,g3⟩
   ·rw[g1]
    refine⟨false,.inr ⟨rfl,fun hon=> ?_⟩⟩
    obtain⟨d,hd⟩:=hon.Wr
    rcases aba d c with h | h
    ·exact hne d h hd.1
    ·have:=hd.1
     rw[show d+1=c+(d - c+1) by omega,CU hit] at this
     simp[itp,g2] at this
   ·have hk':=Ak g2
    rw[show (p.2.1==[])=false by cases hp:p.2.1<;>simp_all,abA,fe l _ (by omega),g3,abo]
    dsimp only[ixI]
    have hit':itp (par l) (c+1) i=some k':=by rw[CU hit];simp[itp,g2]
    by_cases e1:k'=i
    ·subst e1
     rw[show ((k':Int)==(k':Int))=true by simp,abB]
     exact⟨true,.inl ⟨rfl,⟨fun _=>⟨c,hit'⟩,fun _=>rfl⟩⟩⟩
    ·rw[show ((k':Int)==(i:Int))=false by rw[abx];omega,abA,aC (by omega) (by omega)]
     refine ih _ ⟨k',rfl,hk',hit',fun e he=> ?_⟩
     rcases abc.1 he with h | h
     ·exact hne e h
     ·subst h;rw[hit'];simpa using e1
  ·rintro _ again ⟨k,rfl,hk,hit,hne⟩
   unfold qB
   dsimp only
   rw[aF (by omega)]
   refine⟨false,.inl ⟨rfl,⟨fun h=>(by cases h),fun hon=> ?_⟩⟩⟩
   obtain⟨d,hd⟩:=hon.Wr
   have:=hd.le (fun _ _=>Ak) hi
   exact absurd hd.1 (hne d (by omega))
 obtain⟨b,h⟩:=loop (List.length l+(Int.natAbs (i:Int)+(Int.natAbs (i:Int)+(Int.natAbs ((List.length l:Int))+(Int.natAbs (0:Int)+2))))) (by omega)
 rcases h with ⟨h2,h3⟩ | ⟨h2,h3⟩
 ·exact⟨b,by rw[h2];cases b<;>rfl,h3⟩
 ·exact⟨false,by rw[h2];rfl,⟨fun h=>(by cases h),fun h=>absurd h h3⟩⟩
theorem NQ (l:List aa) (hl:l.length≤500) (h1:Dk l) (hn:qh l) (i:Nat) (hi:i<l.length):GD l (i:Int)=some (cI (i::eD l i),true,()):=by
 unfold GD
 have loop:∀ f,l.length<f→iter f ((l,(i:Int),[(i:Int)],()):x9) GF=some (Sum.inr (cI (i::eD l i),())):=by
  intro f hf
  refine qs (Inv:=fun X=>∃ (pre:List Nat) (k:Nat),X=((l,(k:Int),cI pre,()):x9)∧k<l.length∧pre++eD l k=i::eD l i) (fun X=>l.length+1 - X.2.2.1.length)
   (fun _ r=>r=some (Sum.inr (cI (i::eD l i),()))) ?_ f _ ⟨[i],i,rfl,hi,rfl⟩ (by dsimp only;simp;omega)
  rintro _ again ⟨pre,k,rfl,hk,hpre⟩ ih
  dsimp only at ih
  have hlen:pre.length+(eD l k).length=(eD l i).length+1:=by
   have:=congrArg List.length hpre
   simpa using this
  have hlt:=zM hn hi
  unfold GF
  dsimp only
  have hy:l[k]? =some l[k]:=aJ hk
  generalize l[k]=p at hy
  rw[bq,hy,abo,abo]
  rcases Hw h1 hy with ⟨g1,g2⟩ | ⟨g1,k',g2,g3⟩
  ·rw[g1]
   rw[Nk g2,ZK] at hpre
   rw[hpre]
   rfl
  ·have hk':=Ak g2
   rw[show (!(p.2.1==[]))=true by cases hp:p.2.1<;>simp_all,abB,fe l _ (by omega),g3,abo]
   dsimp only[ixI]
   rw[aF (by rw[gD];omega),aQ (kC (by rw[gD];omega) (by rw[gD];omega))]
   refine ih _ ⟨pre++[k'],k',by simp[cI],hk', ?_⟩ (by simp[gD];omega)
   rw[← hpre,Fp hn hk g2,ZJ];rfl
 rw[loop _ (by simp only[aaj,aam];omega),aM]
def n1 (l:List aa) (p:aa):Int:=if p.2.1≠[]∧(cn (·.1) p.2.1 l).isSome=false then 9 else 0
open Classical in
noncomputable def n2 (l:List aa) (i:Nat):Int:=if iw (par l) i then 17 else 0
def n3 (l:List aa) (i:Nat):Int:=if 5<(eD l i).length then 2 else 0
def CW (l:List aa):Int:=bS (fun _ p=>n1 l p) 0 l
noncomputable def CX (l:List aa):Int:=bS (fun i _=>n2 l i) 0 l
def KT (l:List aa):Int:=bS (fun i _=>n3 l i) 0 l
noncomputable def yY (l:List aa):Int:=if CW l≠0 then CW l else if CX l≠0 then CX l else KT l
theorem B3 {l:List aa} (h:CW l=0):Dk l:=by
 intro p hp
 obtain⟨i,hi⟩:=aaA.1 hp
 have:=dO h i p hi
 unfold n1 at this
 by_cases h1:p.2.1=[]
 ·exact .inl h1
 ·cases h2:(cn (fun x:aa=>x.1) p.2.1 l).isSome with
  | true=>exact .inr rfl
  | false=>rw[abO ⟨h1,h2⟩] at this;omega
theorem B4 {l:List aa} (h:CX l=0):qh l:=by
 intro k hk hon
 have:=dO h k l[k] (aJ hk)
 unfold n2 at this
 rw[abm,abO hon] at this
 omega
theorem Db {γ:Type} (s:Int) (u:γ) (k:γ→Option (Int×Unit)) (z:Int) (hk:s=0→k u=some (z,())):aR (β:=Int×Unit) (γ:=γ) (if s=0 then some (Sum.inr u) else some (Sum.inl (s,()))) k=some (if s≠0 then s else z,()):=by
 by_cases h:s=0
 ·rw[abO h,aM,hk h,abN (by simpa using h)]
 ·rw[abN h,gu,abO h]
theorem Wa {γ:Type} (s:Int) (u:γ):aR (β:=Int×Unit) (γ:=γ) (if s=0 then some (Sum.inr u) else some (Sum.inl (s,()))) (fun _=>some (0,()))=some (s,()):=Px s u
theorem Ff (a:an) (hl:a.2.2.2.length≤500) (hs:Asc (·.1) a.2.2.2):oe a=some (yY a.2.2.2,()):=by
 unfold oe yY
 have hat:=fun t=>dK a t (by omega) hs
 have har:=fun h1 i hi=>Al a hl hs h1 i hi
 obtain⟨a1,a2,a3,l⟩:=a
 dsimp only at*
 rw[fM (f:=kR) (fun i=>((l,(l.length:Int),(i:Int),a1,a2,a3,l,()):kT)) l (fun _ p=>n1 l p) (a1,a2,a3,l,()) ?_ ?_ ?_ _ ?_]
 ·refine Db _ _ _ _ fun z1=> ?_
  have h1:=B3 z1
  dsimp only
  rw[fM (f:=kS) (fun i=>(((l.length:Int),(i:Int),a1,a2,a3,l,()):kU)) l (fun i _=>n2 l i) (a1,a2,a3,l,()) ?_ ?_ ?_ _ ?_]
  ·refine Db _ _ _ _ fun z2=> ?_
   have h2:=B4 z2
   dsimp only
   rw[fM (f:=jV) (fun i=>(((l.length:Int),(i:Int),a1,a2,a3,l,()):jW)) l (fun i _=>n3 l i) () ?_ ?_ ?_ _ ?_]
   ·exact Wa _ _
   ·rfl
   ·intro i y again hy
    have hi:=(Z6.1 hy).1
    unfold jV
    dsimp only
    obtain⟨out,ok,g1,g2,g3⟩:=har h1 i hi
    rw[aB (by omega),g1,abo,aC (by omega) (by omega)]
    dsimp only
    rw[g3 h2,gD]
    unfold n3
    by_cases h5:5<(eD l i).length
    ·rw[aB (by omega),abO h5,abN (by omega)]
    ·rw[aF (by omega),abN h5,abO rfl];rfl
   ·intro again
    unfold jV
    dsimp only
    rw[aF (by omega)]
   ·omega
  ·rfl
  ·intro i y again hy
   have hi:=(Z6.1 hy).1
   unfold kS
   dsimp only
   obtain⟨out,ok,g1,g2,g3⟩:=har h1 i hi
   rw[aB (by omega),g1,abo,aC (by omega) (by omega)]
   dsimp only
   unfold n2
   by_cases hon:iw (par l) i
   ·rw[g2.2 hon,abO hon,abN (by omega)];rfl
   ·have:ok=true:=by
     cases ok with
     | true=>rfl
     | false=>exact absurd (g2.1 rfl) hon
    rw[this,abN hon,abO rfl];rfl
  ·intro again
   unfold kS
   dsimp only
   rw[aF (by omega)]
  ·omega
 ·rfl
 ·intro i y again hy
  have hi:=(Z6.1 hy).1
  unfold kR
  dsimp only
  obtain⟨q,hq1,hq2⟩:=hat y.2.1
  rw[aB (by omega),bq,hy,abo,hq1,abo,aC (by omega) (by omega)]
  dsimp only
  by_cases e1:y.2.1=[]
  ·have hn:n1 l y=0:=by unfold n1;rw[abN (fun h=>h.1 e1)]
   rw[hn,abO rfl,e1];rfl
  ·rw[show (!(y.2.1==[]))=true by cases hp:y.2.1<;>simp_all,abB]
   cases h2:(cn (fun x:aa=>x.1) y.2.1 l).isSome with
   | true=>
    have hn:n1 l y=0:=by unfold n1;rw[abN (fun h=>by rw[h2] at h;exact absurd h.2 (by simp))]
    rw[hn,abO rfl];rfl
   | false=>
    have hn:n1 l y=9:=by unfold n1;rw[abO ⟨e1,h2⟩]
    rw[hn,abN (by omega)];rfl
 ·intro again
  unfold kR
  dsimp only
  rw[aF (by omega)]
 ·omega
theorem Rq (l:List aa) (hl:l.length≤500):By l=some (yY l,()):=by
 unfold By yY
 rw[fM (f:=uU) (fun i=>((l,l,(l.length:Int),(i:Int),()):uW)) l (fun _ p=>n1 l p) (l,()) ?_ ?_ ?_ _ ?_]
 ·refine Db _ _ _ _ fun z1=> ?_
  have h1:=B3 z1
  dsimp only
  rw[fM (f:=uV) (fun i=>((l,(l.length:Int),(i:Int),()):uX)) l (fun i _=>n2 l i) (l,()) ?_ ?_ ?_ _ ?_]
  ·refine Db _ _ _ _ fun z2=> ?_
   have h2:=B4 z2
   dsimp only
   rw[fM (f:=sJ) (fun i=>((l,(l.length:Int),(i:Int),()):sK)) l (fun i _=>n3 l i) () ?_ ?_ ?_ _ ?_]
   ·exact Wa _ _
   ·rfl
   ·intro i y again hy
    have hi:=(Z6.1 hy).1
    have hlt:=zM h2 hi
    unfold sJ
    dsimp only
    rw[aB (by omega),NQ l hl h1 h2 i hi,abo,aC (n:=(i:Int)+1) (by omega) (by omega)]
    dsimp only
    rw[Zo,abA,gD,aaj,aC (by omega) (by omega)]
    unfold n3
    by_cases h5:5<(eD l i).length
    ·rw[aB (by omega),abO h5,abN (by omega)]
    ·rw[aF (by omega),abN h5,abO rfl];rfl
   ·intro again
    unfold sJ
    dsimp only
    rw[aF (by omega)]
   ·omega
  ·rfl
  ·intro i y again hy
   have hi:=(Z6.1 hy).1
   unfold uV
   dsimp only
   obtain⟨b,g1,g2⟩:=Rp l hl h1 i hi
   rw[aB (by omega),g1,abo,aC (by omega) (by omega)]
   dsimp only
   unfold n2
   by_cases hon:iw (par l) i
   ·rw[g2.2 hon,abO hon,abN (by omega)];rfl
   ·have:b=false:=by
     cases b with
     | false=>rfl
     | true=>exact absurd (g2.1 rfl) hon
    rw[this,abN hon,abO rfl];rfl
  ·intro again
   unfold uV
   dsimp only
   rw[aF (by omega)]
  ·omega
 ·rfl
 ·intro i y again hy
  have hi:=(Z6.1 hy).1
  unfold uU
  dsimp only
  rw[aB (by omega),bq,hy,abo,fe l _ (by omega),abo,aC (by omega) (by omega)]
  dsimp only
  rw[Xz]
  by_cases e1:y.2.1=[]
  ·have hn:n1 l y=0:=by unfold n1;rw[abN (fun h=>h.1 e1)]
   rw[hn,abO rfl,e1];rfl
  ·rw[show (!(y.2.1==[]))=true by cases hp:y.2.1<;>simp_all,abB]
   cases h2:(cn (fun x:aa=>x.1) y.2.1 l).isSome with
   | true=>
    have hn:n1 l y=0:=by unfold n1;rw[abN (fun h=>by rw[h2] at h;exact absurd h.2 (by simp))]
    rw[hn,abO rfl];rfl
   | false=>
    have hn:n1 l y=9:=by unfold n1;rw[abO ⟨e1,h2⟩]
    rw[hn,abN (by omega)];rfl
 ·intro again
  unfold uU
  dsimp only
  rw[aF (by omega)]
 ·omega
noncomputable def bV (a:an):Int:=
 if jy a.1=false then 5 else if jy a.2.1=false then 5 else if ¬(1≤a.2.2.1∧a.2.2.1≤3652059) then 1
 else if 500<a.2.2.2.length then 2 else if bS (gN a.2.2.2) 0 a.2.2.2≠0 then bS (gN a.2.2.2) 0 a.2.2.2 else yY a.2.2.2
theorem FA {l:List aa} (h:bS (gN l) 0 l=0):Asc (·.1) l:=by
 have step:∀ i x y,l[i]? =some x→l[i+1]? =some y→Op.bytesLess x.1 y.1=true:=fun i x y hx hy=>by
  have:=dO h (i+1) y hy
  rw[abm] at this
  unfold gN at this
  split at this
  ·omega
  ·split at this
   ·omega
   ·rename_i h2
    have h3:sG l (i+1) y=false:=by simpa using h2
    simp only[sG,hx,Zp,abx] at h3
    rcases gY x.1 y.1 with h1 | h1 | h1
    ·exact h1
    ·exact absurd h1.symm h3.2
    ·rw[h3.1] at h1;cases h1
 intro i j x y hij hx hy
 induction j generalizing y with
 | zero=>omega
 | succ j ih=>
  rcases abc.1 hij with h1 | h1
  ·have hj:j<l.length:=by have:=(Z6.1 hy).1;omega
   have hz:l[j]? =some l[j]:=aJ hj
   exact cQ (ih _ h1 hz) (step j _ y hz hy)
  ·subst h1;exact step i x y hx hy
def rF (a:an):Prop:=∀ p∈a.2.2.2,p.1.length≤9223372036854775807
theorem gz (a:an) (hf:rF a):cZ a=some (bV a,()):=by
 unfold cZ bV
 simp only[EK,QU,abo]
 cases jy a.1 with
 | false=>rfl
 | true=>
 cases jy a.2.1 with
 | false=>rfl
 | true=>
 simp only[Zo,abA,Bool.true_eq_false,abM]
 by_cases n_c1:¬(1≤a.2.2.1∧a.2.2.1≤3652059)
 ·rw[abD n_c1,abO n_c1];rfl
 have c1:=Decidable.of_not_not n_c1
 rw[abF c1,abN (by simpa using c1),Zo,abA]
 by_cases c2:500<a.2.2.2.length
 ·rw[aB (by omega),abO c2]
 rw[aF (by omega),abN c2]
 obtain⟨a1,a2,a3,l⟩:=a
 dsimp only at*
 rw[fM (f:=jl) (fun i=>(((l.length:Int),(i:Int),a1,a2,a3,l,()):jm)) l (gN l) (a1,a2,a3,l,()) ?_ ?_ ?_ _ ?_]
 ·refine Db _ _ _ _ fun z=> ?_
  dsimp only
  rw[Ff (a1,a2,a3,l) (by dsimp only;omega) (FA z),abo]
 ·rfl
 ·intro i y again hy
  have hi:=(Z6.1 hy).1
  unfold jl
  dsimp only
  rw[aB (by omega),C3 l i y hy (by omega) (hf y (aaC hy)),abo,aC (by omega) (by omega)]
  dsimp only
  by_cases hz:gN l i y=0
  ·rw[hz];rfl
  ·rw[show (gN l i y != 0)=true by simpa using hz,abB,abN hz]
 ·intro again
  unfold jl
  dsimp only
  rw[aF (by omega)]
 ·omega
theorem gA (a:an) (hf:rF a):de a=some (bV a,()):=by
 unfold de bV
 simp only[GJ,SJ,abo]
 cases jy a.1 with
 | false=>rfl
 | true=>
 cases jy a.2.1 with
 | false=>rfl
 | true=>
 simp only[Zo,abA,Bool.true_eq_false,abM]
 by_cases n_c1:¬(1≤a.2.2.1∧a.2.2.1≤3652059)
 ·rw[abD n_c1,abO n_c1];rfl
 have c1:=Decidable.of_not_not n_c1
 rw[abF c1,abN (by simpa using c1),Zo,abA]
 by_cases c2:500<a.2.2.2.length
 ·rw[aB (by omega),abO c2]
 rw[aF (by omega),abN c2]
 obtain⟨a1,a2,a3,l⟩:=a
 dsimp only at*
 rw[fM (f:=lZ) (fun i=>((l,(l.length:Int),(i:Int),a1,a2,a3,l,()):l6)) l (gN l) (a1,a2,a3,l,()) ?_ ?_ ?_ _ ?_]
 ·refine Db _ _ _ _ fun z=> ?_
  dsimp only
  rw[Rq l (by omega),abo]
 ·rfl
 ·intro i y again hy
  have hi:=(Z6.1 hy).1
  unfold lZ
  dsimp only
  rw[aB (by omega),bq,hy,abo,MV _ (hf y (aaC hy)),abo]
  simp only[ER,Ea,abo,Zn]
  have hw:w64 ((i:Int)+1)=((i+1:Nat):Int):=by rw[aC (by omega) (by omega)];omega
  rw[hw]
  unfold gN
  have fin:(bif eY y.2.2.2 != 0 then some (Sum.inl (eY y.2.2.2,())) else again (l,(l.length:Int),((i+1:Nat):Int),a1,a2,a3,l,()))=if eY y.2.2.2=0 then again (l,(l.length:Int),((i+1:Nat):Int),a1,a2,a3,l,()) else some (Sum.inl (eY y.2.2.2,())):=by
   by_cases hz:eY y.2.2.2=0
   ·rw[hz];rfl
   ·rw[show (eY y.2.2.2 != 0)=true by simpa using hz,abB,abN hz]
  rw[fin]
  cases i with
  | zero=>
   simp only[sG]
   cases lbl y.1<;>cases qOk y.2.2.1 true<;>simp
  | succ i=>
   have hp:l[i]? =some (l[i]'(by omega)):=aJ (by omega)
   have ep:sG l (i+1) y=(Op.bytesLess y.1 (l[i]'(by omega)).1||y.1==(l[i]'(by omega)).1):=by simp only[sG,hp]
   have hpos:decide (((i+1:Nat):Int)>0)=true:=by simp
   rw[Bv (by omega) (by omega),hp,ep,hpos]
   simp only[abo,abB]
   generalize (Op.bytesLess y.1 (l[i]'(by omega)).1||y.1==(l[i]'(by omega)).1)=p
   cases lbl y.1<;>cases qOk y.2.2.1 true<;>cases p<;>simp
 ·intro again
  unfold lZ
  dsimp only
  rw[aF (by omega)]
 ·omega
end Go.Md
namespace Go.Md
open Go.Dn
structure TK (a:an):Prop where
 len:a.2.2.2.length≤500
 asc:Asc (·.1) a.2.2.2
 n1:Dk a.2.2.2
 nl:qh a.2.2.2
theorem gX {a:an} (h:bV a=0):TK a:=by
 unfold bV at h
 split at h
 ·omega
 split at h
 ·omega
 split at h
 ·omega
 split at h
 ·omega
 split at h
 ·omega
 rename_i h1 h2
 have h3:bS (gN a.2.2.2) 0 a.2.2.2=0:=by omega
 unfold yY at h
 split at h
 ·omega
 rename_i h4
 split at h
 ·omega
 rename_i h5
 exact⟨by omega,FA h3,B3 (by omega),B4 (by omega)⟩
def lab (l:List aa) (i:Nat):List UInt8:=((l[i]?).map (·.1)).getD []
theorem Mw {l:List aa} {i:Nat} {p:aa} (h:l[i]? =some p):lab l i=p.1:=by unfold lab;rw[h];rfl
theorem QX {l:List aa} (hs:Asc (·.1) l) {t:List UInt8} {T i:Nat} (hT:cn (·.1) t l=some T) (hi:i<l.length):lab l i=t↔i=T:=by
 have hp:l[i]? =some l[i]:=aJ hi
 rw[Mw hp]
 constructor
 ·intro h
  have:=Hr hs hp h
  rw[hT] at this;cases this;rfl
 ·rintro rfl
  obtain⟨x,h1,h2⟩:=iR hT
  rw[hp] at h1;cases h1;exact h2
theorem uS (a:an) (hf:rF a) (t:List UInt8):jM a t false=some (if bV a≠0 then bV a else if (cn (·.1) t a.2.2.2).isSome=true then 0 else 9,()):=by
 unfold jM
 rw[gz a hf,abo]
 dsimp only
 by_cases h:bV a=0
 ·have hok:=gX h
  have:=hok.len
  obtain⟨q,h1,h2⟩:=dK a t (by omega) hok.asc
  rw[h,show ((0:Int) != 0)=false from rfl,abA,h1,abo,abN (by simp)]
  cases (cn (fun x:aa=>x.1) t a.2.2.2).isSome<;>rfl
 ·rw[show (bV a != 0)=true by simpa using h,abB,abO h]
theorem US {a:an} (h:TK a) {i:Nat} (hi:i<a.2.2.2.length):jB a (i:Int)=some (cI (eD a.2.2.2 i),true,()):=by
 obtain⟨out,ok,g1,g2,g3⟩:=Al a h.len h.asc h.n1 i hi
 have:ok=true:=by
  cases ok with
  | true=>rfl
  | false=>exact absurd (g2.1 rfl) (h.nl i hi)
 rw[g1,g3 h.nl,this]
theorem GA {a:an} (h:TK a) {i T:Nat} (hi:i<a.2.2.2.length) {t:List UInt8} (hT:cn (·.1) t a.2.2.2=some T):pY a (i:Int) t=some (decide (T∈eD a.2.2.2 i),()):=by
 unfold pY lC oo
 rw[US h hi,abo]
 dsimp only
 have hlt:∀ x∈eD a.2.2.2 i,x<a.2.2.2.length:=fun x hx=>Xl hx
 have hlen:=zM h.nl hi
 have hl:=h.len
 generalize eD a.2.2.2 i=L at*
 have loop:∀ f,L.length<f→∃ n:Int,iter f ((cI L,(a,t),((cI L).length:Int),(0:Int),()):eZ) iu=(if T∈L then some (Sum.inl (n,())) else some (Sum.inr ()))∧0≤n:=by
  intro f hf
  refine bI (Inv:=fun c X=>X=((cI L,(a,t),((cI L).length:Int),(c:Int),()):eZ)∧∀ j y,j<c→L[j]? =some y→y≠T) L.length
   (fun r=>∃ n:Int,r=(if T∈L then some (Sum.inl (n,())) else some (Sum.inr ()))∧0≤n) ?_ ?_ f 0 _ ⟨rfl,fun _ _ h=>absurd h (abh _)⟩ (by omega) (by omega)
  ·rintro c _ again hc ⟨rfl,hb⟩ ih
   unfold iu rI
   dsimp only
   have hy:L[c]? =some L[c]:=aJ hc
   have hyl:=hlt _ (aaf hc)
   generalize L[c]=y at hy hyl
   have hy':(cI L)[c]? =some (y:Int):=by unfold cI;rw[Z7,hy];rfl
   have hp:a.2.2.2[y]? =some a.2.2.2[y]:=aJ hyl
   rw[aB (by rw[gD];omega),bq,hy',abo,bq,hp,abo,abo]
   dsimp only
   have hle:=QX h.asc hT hyl
   rw[Mw hp] at hle
   by_cases he:y=T
   ·rw[show (a.2.2.2[y].1==t)=true by simpa using hle.2 he,abB]
    exact⟨c,by rw[abO (he ▸ aaC hy)],by omega⟩
   ·rw[show (a.2.2.2[y].1==t)=false by simpa using fun e=>he (hle.1 e),abA,aC (by omega) (by omega)]
    refine ih _ ⟨rfl,fun j z hj hz=> ?_⟩
    rcases abc.1 hj with h | h
    ·exact hb j z h hz
    ·subst h;rw[hy] at hz;cases hz;exact he
  ·rintro _ again ⟨rfl,hb⟩
   unfold iu
   dsimp only
   rw[aF (by rw[gD];omega)]
   refine⟨0, ?_,Zt _⟩
   rw[abN]
   intro hm
   obtain⟨j,hj⟩:=aaA.1 hm
   exact hb j T (Z6.1 hj).1 hj rfl
 obtain⟨n,h1,h2⟩:=loop (List.length (cI L)+(Int.natAbs ((List.length (cI L):Int))+(Int.natAbs (0:Int)+2))) (by rw[gD];omega)
 rw[h1]
 by_cases hm:T∈L
 ·rw[abO hm,gu,abo,abo,abF hm]
  congr 2
  exact abF h2
 ·rw[abN hm,aM,abo,abo,abD hm]
  rfl
theorem O5 (l:List aa) (L:List Nat) (hL:∀ x∈L,x<l.length) (hlen:L.length<1000000):zh l (cI L)=some (L.map (lab l),()):=by
 unfold zh
 have loop:∀ f,L.length<f→iter f ((l,([]:List (List UInt8)),cI L,((cI L).length:Int),(0:Int),()):oQ) sI=some (Sum.inr (L.map (lab l),())):=by
  intro f hf
  refine bI (Inv:=fun i X=>X=((l,(L.take i).map (lab l),cI L,((cI L).length:Int),(i:Int),()):oQ)) L.length (fun r=>r=some (Sum.inr (L.map (lab l),()))) ?_ ?_ f 0 _ rfl (by omega) (by omega)
  ·rintro i _ again hi rfl ih
   unfold sI
   dsimp only
   have hy:L[i]? =some L[i]:=aJ hi
   have hyl:=hL _ (aaf hi)
   have htk:=jE hy
   generalize L[i]=y at hy hyl htk
   have hy':(cI L)[i]? =some (y:Int):=by unfold cI;rw[Z7,hy];rfl
   have hp:l[y]? =some l[y]:=aJ hyl
   rw[aB (by rw[gD];omega),bq,hy',abo,bq,hp,abo,aC (by omega) (by omega),aQ (kC (by simp;omega) (by simp;omega))]
   refine ih _ ?_
   rw[htk,aar,List.map_singleton,Mw hp]
   rfl
  ·rintro _ again rfl
   unfold sI
   dsimp only
   rw[aF (by rw[gD];omega),aaX (aa7 _)]
 rw[loop _ (by rw[gD];omega),aM]
def ins (l:List aa) (T n:Nat):List Nat:=(List.range n).filter (fun i=>decide (T∈i::eD l i))
theorem Tc (l:List aa) (T n:Nat):(ins l T n).length≤n:=by
 unfold ins
 exact aa8 (List.length_filter_le _ _) (by simp)
theorem Wz (l:List aa) (T n:Nat):ins l T (n+1)=if T∈n::eD l n then ins l T n++[n] else ins l T n:=by
 unfold ins
 rw[List.range_succ,List.filter_append]
 by_cases h:T∈n::eD l n
 ·rw[abO h];simp only[List.filter_cons,List.filter_nil,abF h,abP]
 ·rw[abN h];simp only[List.filter_cons,List.filter_nil,abD h,Zh,abM,ZK]
theorem O4 (l:List aa) (hl:l.length≤500) (h1:Dk l) (hn:qh l) (t:List UInt8) (ht:t≠[]) (T:Nat) (hT:cn (·.1) t l=some T):zg l t=some (cI (ins l T l.length),()):=by
 unfold zg
 have loop:∀ f,l.length<f→iter f ((l,t,([]:List Int),(l.length:Int),(0:Int),()):oP) sH=some (Sum.inr (cI (ins l T l.length),())):=by
  intro f hf
  refine bI (Inv:=fun i X=>X=((l,t,cI (ins l T i),(l.length:Int),(i:Int),()):oP)) l.length (fun r=>r=some (Sum.inr (cI (ins l T l.length),()))) ?_ ?_ f 0 _ rfl (by omega) (by omega)
  ·rintro i _ again hi rfl ih
   unfold sH
   dsimp only
   have hlt:=zM hn hi
   have hil:=Tc l T i
   rw[aB (by omega),NQ l hl h1 hn i hi,abo,show (t==[])=false by cases t<;>simp_all,abA,fe l t (by omega),hT,abo]
   dsimp only[ixI]
   rw[mK _ _ (by rw[gD,aaj];omega),abo,aC (by omega) (by omega)]
   dsimp only
   have hs:=Wz l T i
   by_cases hm:T∈i::eD l i
   ·rw[abF (JX.2 hm),abB,aQ (kC (by rw[gD];omega) (by rw[gD];omega))]
    refine ih _ ?_
    rw[hs,abO hm]
    simp[cI]
   ·rw[abD (fun h=>hm (JX.1 h)),abA]
    refine ih _ ?_
    rw[hs,abN hm]
    rfl
  ·rintro _ again rfl
   unfold sH
   dsimp only
   rw[aF (by omega)]
 rw[loop _ (by omega),aM]
end Go.Md
