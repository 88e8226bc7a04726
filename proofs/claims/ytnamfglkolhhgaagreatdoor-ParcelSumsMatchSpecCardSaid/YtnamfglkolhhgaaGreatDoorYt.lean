/-
  Plain facts: parcels. No condition.
-/
import Derived.Test.YtnamfglkolhhgaaGreatDoorYp
import Derived.Test.YtnamfglkolhhgaaGreatDoorYr
import Derived.Test.YtnamfglkolhhgaaGreatDoorYn
set_option linter.all false
namespace Go.Md
open Go.Dn
theorem yg:∀ (n:Nat) (l:List Nat),l.Nodup→(∀ x∈l,x<n)→l.length≤n
 | 0,l,_,h=>by
  cases l with
  | nil=>simp
  | cons a r=>exact absurd (h a (by simp)) (ab4 _)
 | n+1,l,hd,h=>by
  by_cases hm:n∈l
  ·have h1:=yg n (l.erase n) (hd.erase n) (fun x hx=>by
    have:=(hd.mem_erase_iff).1 hx
    have:=h x this.2
    omega)
   rw[List.length_erase_of_mem hm] at h1
   omega
  ·have:=yg n l hd (fun x hx=>by
    have h2:=h x hx
    have:x≠n:=fun e=>hm (e ▸ hx)
    omega)
   omega
def itp (par:Nat→Option Nat):Nat→Nat→Option Nat
 | 0,i=>some i
 | j+1,i=>(par i).bind (itp par j)
theorem Dt {par:Nat→Option Nat}:∀ {a b i k:Nat},itp par a i=some k→itp par (a+b) i=itp par b k
 | 0,b,i,k,h=>by simp only[itp,Option.some.injEq] at h;subst h;rw[ab9]
 | a+1,b,i,k,h=>by
  simp only[itp] at h
  rw[show a+1+b=(a+b)+1 by omega]
  simp only[itp]
  cases hp:par i with
  | none=>rw[hp] at h;cases h
  | some j=>rw[hp] at h;exact Dt (a:=a) (by simpa using h)
def gE (par:Nat→Option Nat) (i:Nat):Prop:=∃ j,itp par (j+1) i=some i
def tq (par:Nat→Option Nat) (i k d:Nat):Prop:=itp par (d+1) k=some i∧∀ e,e<d→itp par (e+1) k≠some i
theorem tq.uniq {par:Nat→Option Nat} {i k d e:Nat} (h:tq par i k d) (h':tq par i k e):d=e:=by
 rcases abZ d e with h1 | h1 | h1
 ·exact absurd h.1 (h'.2 d h1)
 ·exact h1
 ·exact absurd h'.1 (h.2 e h1)
theorem tq.step {par:Nat→Option Nat} {i k d:Nat} (h:tq par i k d):∃ k',par k=some k'∧((k'=i∧d=0)∨(k'≠i∧∃ e,d=e+1∧tq par i k' e)):=by
 obtain⟨h1,h2⟩:=h
 simp only[itp] at h1
 cases hp:par k with
 | none=>rw[hp] at h1;cases h1
 | some k'=>
  rw[hp] at h1
  refine⟨k',rfl, ?_⟩
  cases d with
  | zero=>simp only[ace,itp,Option.some.injEq] at h1;exact .inl ⟨h1,rfl⟩
  | succ e=>
   right
   refine⟨fun e1=> ?_,e,rfl,by simpa using h1,fun f hf hx=> ?_⟩
   ·refine h2 0 (by omega) ?_
    simp only[itp,hp,ace,e1]
   ·refine h2 (f+1) (by omega) ?_
    rw[show f+1+1=(f+1)+1 from rfl]
    show (par k).bind (itp par (f+1))=some i
    rw[hp];exact hx
theorem gE.WU {par:Nat→Option Nat} {i:Nat} (h:gE par i):∃ d,tq par i i d:=by
 obtain⟨j,hj⟩:=h
 induction j using Nat.strongRecOn with
 | _ j ih=>
  by_cases hx:∃ e,e<j∧itp par (e+1) i=some i
  ·obtain⟨e,h1,h2⟩:=hx;exact ih e h1 h2
  ·exact⟨j,hj,fun e he h2=>hx ⟨e,he,h2⟩⟩
theorem tq.list {par:Nat→Option Nat} {i n:Nat} (hn:∀ k k',par k=some k'→k'<n):∀ {d k:Nat},k<n→tq par i k d→∃ l:List Nat,l.length=d+1∧l.Nodup∧(∀ x∈l,x<n)∧∀ x∈l,∃ e,e≤d∧tq par i x e
 | 0,k,hk,h=>⟨[k],rfl,by simp,by simpa using hk,fun x hx=>by simp at hx;subst hx;exact⟨0,abP _,h⟩⟩
 | d+1,k,hk,h=>by
  obtain⟨k',h1,h2⟩:=h.step
  rcases h2 with ⟨_,h2⟩ | ⟨_,e,h2,h3⟩
  ·omega
  ·have:e=d:=by omega
   subst this
   obtain⟨l,l1,l2,l3,l4⟩:=tq.list hn (hn _ _ h1) h3
   refine⟨k::l,by simp[l1],abn.2 ⟨fun hm=> ?_,l2⟩,fun x hx=> ?_,fun x hx=> ?_⟩
   ·obtain⟨f,f1,f2⟩:=l4 k hm
    have:=f2.uniq h
    omega
   ·rcases aa9.1 hx with rfl | hx
    ·exact hk
    ·exact l3 x hx
   ·rcases aa9.1 hx with rfl | hx
    ·exact⟨e+1,abP _,h⟩
    ·obtain⟨f,f1,f2⟩:=l4 x hx;exact⟨f,by omega,f2⟩
theorem tq.le {par:Nat→Option Nat} {i n d k:Nat} (hn:∀ k k',par k=some k'→k'<n) (hk:k<n) (h:tq par i k d):d+1≤n:=by
 obtain⟨l,l1,l2,l3,_⟩:=h.list hn hk
 have:=yg n l l2 l3
 omega
def anc (par:Nat→Option Nat):Nat→Nat→List Nat
 | 0,_=>[]
 | f+1,i=>match par i with
  | none=>[]
  | some k=>k::anc par f k
theorem wh {par:Nat→Option Nat} {f i k:Nat} (h:par i=some k):anc par (f+1) i=k::anc par f k:=by simp[anc,h]
theorem JF {par:Nat→Option Nat} {i:Nat} (h:par i=none):∀ f,anc par f i=[]
 | 0=>rfl
 | f+1=>by simp[anc,h]
theorem TK {par:Nat→Option Nat}:∀ {f i x:Nat},x∈anc par f i→∃ j,j<f∧itp par (j+1) i=some x
 | 0,_,_,h=>by simp[anc] at h
 | f+1,i,x,h=>by
  cases hp:par i with
  | none=>simp[anc,hp] at h
  | some k=>
   rw[wh hp] at h
   rcases aa9.1 h with rfl | h
   ·exact⟨0,by omega,by simp[itp,hp]⟩
   ·obtain⟨j,h1,h2⟩:=TK h
    exact⟨j+1,by omega,by show (par i).bind (itp par (j+1))=some x;rw[hp];exact h2⟩
theorem Qk {par:Nat→Option Nat} {n:Nat} (hn:∀ k k',par k=some k'→k'<n):∀ {f i x:Nat},x∈anc par f i→x<n
 | 0,_,_,h=>by simp[anc] at h
 | f+1,i,x,h=>by
  cases hp:par i with
  | none=>simp[anc,hp] at h
  | some k=>
   rw[wh hp] at h
   rcases aa9.1 h with rfl | h
   ·exact hn _ _ hp
   ·exact Qk hn h
theorem F6 {par:Nat→Option Nat} {n:Nat} (hn:∀ k k',par k=some k'→k'<n) (hl:∀ k,k<n→¬ gE par k):∀ {f i:Nat},i<n→(i::anc par f i).Nodup
 | 0,i,_=>by simp[anc]
 | f+1,i,hi=>by
  rw[abn]
  refine⟨fun hm=> ?_, ?_⟩
  ·obtain⟨j,_,hj⟩:=TK hm
   exact hl i hi ⟨j,hj⟩
  ·cases hp:par i with
   | none=>simp[anc,hp]
   | some k=>
    rw[wh hp]
    exact F6 hn hl (hn _ _ hp)
theorem XK {par:Nat→Option Nat} {n:Nat} (hn:∀ k k',par k=some k'→k'<n) (hl:∀ k,k<n→¬ gE par k) {f i:Nat} (hi:i<n):(anc par f i).length<n:=by
 have:=yg n (i::anc par f i) (F6 hn hl hi) (fun x hx=>by
  rcases aa9.1 hx with rfl | hx
  ·exact hi
  ·exact Qk hn hx)
 simp at this;omega
theorem Oa {par:Nat→Option Nat}:∀ {f g i:Nat},(anc par f i).length<f→f≤g→anc par g i=anc par f i
 | 0,_,_,h,_=>by simp[anc] at h
 | f+1,g,i,h,hg=>by
  obtain⟨g,rfl⟩:∃ g',g=g'+1:=⟨g - 1,by omega⟩
  cases hp:par i with
  | none=>rw[JF hp,JF hp]
  | some k=>
   rw[wh hp] at h ⊢
   rw[wh hp]
   rw[Oa (f:=f) (by simpa using h) (by omega)]
end Go.Md
namespace Go.Md
open Go.Dn
theorem mm (l:List Int) (x:Int) (hl:l.length<1000000000):eN l x=some (decide (x∈l),()):=by
 unfold eN tP
 have loop:∀ f,l.length<f→∃ n:Int,iter f ((l,x,(l.length:Int),(0:Int),()):gI) kz=(if x∈l then some (Sum.inl (n,())) else some (Sum.inr ()))∧0≤n:=by
  intro f hf
  refine bI (Inv:=fun i X=>X=((l,x,(l.length:Int),(i:Int),()):gI)∧∀ j y,j<i→l[j]? =some y→y≠x) l.length
   (fun r=>∃ n:Int,r=(if x∈l then some (Sum.inl (n,())) else some (Sum.inr ()))∧0≤n) ?_ ?_ f 0 _ ⟨rfl,fun _ _ h=>absurd h (ab4 _)⟩ (by omega) (by omega)
  ·rintro i _ again hi ⟨rfl,hb⟩ ih
   unfold kz
   dsimp only
   have hy:l[i]? =some l[i]:=aF hi
   generalize l[i]=y at hy
   rw[aC (by omega),bD,hy,ace]
   by_cases he:x=y
   ·rw[show (x==y)=true by simpa using he,acr]
    exact⟨i,by rw[acF (he ▸ abf hy)],by omega⟩
   ·rw[show (x==y)=false by simpa using he,acq,aA (by omega) (by omega)]
    refine ih _ ⟨rfl,fun j z hj hz=> ?_⟩
    rcases abX.1 hj with h | h
    ·exact hb j z h hz
    ·subst h;rw[hy] at hz;cases hz;exact fun e=>he e.symm
  ·rintro _ again ⟨rfl,hb⟩
   unfold kz
   dsimp only
   rw[aH (by omega)]
   refine⟨0, ?_,Z2 _⟩
   rw[acE]
   intro hm
   obtain⟨j,hj⟩:=abd.1 hm
   exact hb j x (aaL.1 hj).1 hj rfl
 obtain⟨n,h1,h2⟩:=loop (List.length l+(Int.natAbs x+(Int.natAbs ((List.length l:Int))+(Int.natAbs (0:Int)+2)))) (by omega)
 rw[h1]
 by_cases hm:x∈l
 ·rw[acF hm,lu,ace,acw hm]
  congr 2
  exact acw h2
 ·rw[acE hm,aV,ace,acu hm]
  rfl
def mH (c:UInt8):Bool:=decide (48≤c.toNat)&&decide (c.toNat≤57)
theorem Ea {c:UInt8}:(decide ((c.toNat:Int)<48)=false∧decide ((c.toNat:Int)>57)=false)↔mH c=true:=by
 simp only[mH,ZN,acy,acv]
 omega
theorem LL (s:List UInt8) (hs:s.length≤9223372036854775807):qh s=some (decide (s≠[])&&s.all mH,()):=by
 unfold qh CA
 by_cases h0:s=[]
 ·subst h0;rfl
 ·rw[show (!(s==[]))=true by cases s<;>simp_all,acr,acw h0,Z0]
  have loop:∀ f,s.length<f→iter f ((s,(48:Int),(57:Int),(s.length:Int),(0:Int),()):mI) qY=(if s.all mH=true then some (Sum.inr ()) else some (Sum.inl (false,()))):=by
   intro f hf
   refine bI (Inv:=fun i X=>X=((s,(48:Int),(57:Int),(s.length:Int),(i:Int),()):mI)∧(s.take i).all mH=true) s.length
    (fun r=>r=(if s.all mH=true then some (Sum.inr ()) else some (Sum.inl (false,())))) ?_ ?_ f 0 _ ⟨rfl,by simp⟩ (by omega) (by omega)
   ·rintro i _ again hi ⟨rfl,hb⟩ ih
    unfold qY
    dsimp only
    have hy:s[i]? =some s[i]:=aF hi
    have hym:s[i]∈s:=aaV hi
    generalize s[i]=y at hy hym
    rw[aC (by omega),A9 hy,ace,ace,aA (by omega) (by omega)]
    cases hd:mH y with
    | true=>
     obtain⟨h1,h2⟩:=Ea.2 hd
     rw[h1,h2,acq,acq]
     refine ih _ ⟨rfl, ?_⟩
     rw[kS hy]
     simp[hb,hd]
    | false=>
     have hall:s.all mH=false:=by
      rw[List.all_eq_false]
      exact⟨y,hym,by simp[hd]⟩
     rw[hall]
     cases h1:decide ((y.toNat:Int)<48) with
     | true=>rfl
     | false=>
      cases h2:decide ((y.toNat:Int)>57) with
      | true=>rfl
      | false=>have:=Ea.1 ⟨h1,h2⟩;rw[hd] at this;cases this
   ·rintro _ again ⟨rfl,hb⟩
    unfold qY
    dsimp only
    rw[aH (by omega)]
    rw[abD (abP _)] at hb
    rw[acF hb]
  rw[loop _ (by omega)]
  cases s.all mH<;>rfl
theorem NR (s:List UInt8) (hs:s.length≤9223372036854775807):jC s=some (decide (s≠[])&&s.all mH,()):=by
 unfold jC
 by_cases h0:s=[]
 ·subst h0;rfl
 ·rw[show (s==[])=false by cases s<;>simp_all,acq,acw h0,Z0]
  have loop:∀ f,s.length<f→iter f ((s,(s.length:Int),(0:Int),()):mU) rE=(if s.all mH=true then some (Sum.inr ()) else some (Sum.inl (false,()))):=by
   intro f hf
   refine bI (Inv:=fun i X=>X=((s,(s.length:Int),(i:Int),()):mU)∧(s.take i).all mH=true) s.length
    (fun r=>r=(if s.all mH=true then some (Sum.inr ()) else some (Sum.inl (false,())))) ?_ ?_ f 0 _ ⟨rfl,by simp⟩ (by omega) (by omega)
   ·rintro i _ again hi ⟨rfl,hb⟩ ih
    unfold rE
    dsimp only
    have hy:s[i]? =some s[i]:=aF hi
    have hym:s[i]∈s:=aaV hi
    generalize s[i]=y at hy hym
    rw[aC (by omega),A9 hy,ace,ace,aA (by omega) (by omega)]
    cases hd:mH y with
    | true=>
     obtain⟨h1,h2⟩:=Ea.2 hd
     rw[h1,h2,acq,acq]
     refine ih _ ⟨rfl, ?_⟩
     rw[kS hy]
     simp[hb,hd]
    | false=>
     have hall:s.all mH=false:=by
      rw[List.all_eq_false]
      exact⟨y,hym,by simp[hd]⟩
     rw[hall]
     cases h1:decide ((y.toNat:Int)<48) with
     | true=>rfl
     | false=>
      cases h2:decide ((y.toNat:Int)>57) with
      | true=>rfl
      | false=>have:=Ea.1 ⟨h1,h2⟩;rw[hd] at this;cases this
   ·rintro _ again ⟨rfl,hb⟩
    unfold rE
    dsimp only
    rw[aH (by omega)]
    rw[abD (abP _)] at hb
    rw[acF hb]
  rw[loop _ (by omega)]
  cases s.all mH<;>rfl
theorem JB (s:List UInt8) (hs:s.length≤100):∃ b,nq s=some (b,()):=by
 unfold nq
 have loop:∀ f,s.length<f→∃ n:Int,iter f ((s,(0:Int),(s.length:Int),(0:Int),()):qA) vA=some (Sum.inr (n,())):=by
  intro f hf
  refine bI (Inv:=fun i X=>∃ n:Int,X=((s,n,(s.length:Int),(i:Int),()):qA)) s.length
   (fun r=>∃ n:Int,r=some (Sum.inr (n,()))) ?_ ?_ f 0 _ ⟨0,rfl⟩ (by omega) (by omega)
  ·rintro i _ again hi ⟨n,rfl⟩ ih
   unfold vA
   dsimp only
   have e:w64 (w64 ((s.length:Int) - 1) - (i:Int))=((s.length - 1 - i:Nat):Int):=by
    rw[aA (n:=(s.length:Int) - 1) (by omega) (by omega),aA (by omega) (by omega)];omega
   have hy:s[s.length - 1 - i]? =some (s[s.length - 1 - i]'(by omega)):=aF (by omega)
   rw[aC (by omega),e,A9 hy,ace,aA (n:=(i:Int)+1) (by omega) (by omega)]
   cases (Int.tmod (i:Int) 2==1) with
   | true=>rw[acr];exact ih _ ⟨_,rfl⟩
   | false=>rw[acq];exact ih _ ⟨_,rfl⟩
  ·rintro _ again ⟨n,rfl⟩
   unfold vA
   dsimp only
   rw[aH (by omega)]
   exact⟨n,rfl⟩
 obtain⟨n,h⟩:=loop (List.length s+(Int.natAbs (0:Int)+(Int.natAbs ((List.length s:Int))+(Int.natAbs (0:Int)+2)))) (by omega)
 rw[h]
 exact⟨_,rfl⟩
def lbl (s:List UInt8):Bool:=decide (s.length=18)&&(s.all mH&&((nq s).map (·.1)).getD false)
theorem I5 (s:List UInt8) (hs:s.length≤9223372036854775807):rq s=some (lbl s,()):=by
 unfold rq uK sF pG wg
 rw[qZ,ace,ace]
 dsimp only
 rw[show (!(!(decide ((3:Int)<1∨(5:Int)<3))))=false by decide,acq,show ((3:Int)==4)=false from rfl,show ((3:Int)==5)=false from rfl,show ((3:Int)==1)=false from rfl,show ((3:Int)==2)=false from rfl]
 simp only[acq,ace]
 rw[mm _ _ (by decide),ace,LL s hs]
 unfold lbl
 by_cases hl:s.length=18
 ·obtain⟨b,hb⟩:=JB s (by omega)
  have hb2:Ag s=some (b,()):=hb
  have hne:s≠[]:=fun e=>by subst e;cases hl
  rw[acw (show (s.length:Int)∈[18] by simp;omega),acr,ace,acw hne,Z0,acw hl,Z0,hb2,hb]
  cases s.all mH<;>simp
 ·rw[acu (show ¬ (s.length:Int)∈[18] by simp;omega),acu hl]
  rfl
theorem NN (s:List UInt8) (hs:s.length≤9223372036854775807):xE s=some (lbl s,()):=by
 unfold xE CO HD CR
 rw[vB,ace,ace]
 dsimp only
 rw[show (!(decide ((1:Int)≤3∧(3:Int)≤5)))=false by decide,acq,show ((3:Int)==1)=false from rfl,show ((3:Int)==2)=false from rfl,show ((3:Int)==3)=true from rfl]
 simp only[acq,acr]
 rw[NR s hs,ace]
 unfold lbl
 by_cases hl:s.length=18
 ·obtain⟨b,hb⟩:=JB s (by omega)
  have hne:s≠[]:=fun e=>by subst e;cases hl
  rw[acw hne,Z0,acw hl,Z0,hb,show ((s.length:Int)==18)=true by rw[hl];rfl]
  cases s.all mH<;>simp
 ·rw[acu hl,show ((s.length:Int)==18)=false by rw[acn];omega]
  cases (decide (s≠[])&&s.all mH)<;>rfl
def qOk (d:ak) (zero:Bool):Bool:=inR d 0 1000000000 3&&(!(d.1==0)||zero)
theorem LZ {d:ak} (hd:cD d):u6 d 3 1000000000=some (inR d 0 1000000000 3,()):=by
 unfold u6
 have hp:=B6 d.2.toNat
 have hp2:(10:Int) ^ d.2.toNat≤1000000000:=by
  have:=ab7 (n:=10) (by omega) (show d.2.toNat≤9 by have:=hd.2.2;omega)
  have h2:=Int.ofNat_le.2 this
  simpa using h2
 rw[NF d.2 hd.2.1 (by have:=hd.2.2;omega)]
 have e:inR d 0 1000000000 3=(decide (d.2≤3)&&(decide (d.1≥0)&&decide (d.1≤1000000000*10 ^ d.2.toNat))):=by
  unfold inR
  rw[← Bool.decide_and, ← Bool.decide_and,acs,Int.zero_mul]
  constructor
  ·rintro⟨_,h2,h3,h4⟩;exact⟨h2,h3,h4⟩
  ·rintro⟨h2,h3,h4⟩;exact⟨hd,h2,h3,h4⟩
 rw[e,ace,aA (n:=1000000000*10 ^ d.2.toNat) (by omega) (by omega)]
 cases decide (d.2≤3)<;>cases decide (d.1≥0)<;>cases decide (d.1≤1000000000*10 ^ d.2.toNat)<;>rfl
theorem sg (d:ak) (z:Bool):cL d z=some (if qOk d z=true then 0 else 1,()):=by
 unfold cL qOk
 rw[By,ace]
 by_cases hd:cD d
 ·rw[LZ hd,acF hd]
  dsimp only
  rw[show ((0:Int) != 0)=false from rfl,acq,ace]
  cases inR d 0 1000000000 3<;>cases (d.1==0)<;>cases z<;>rfl
 ·have:inR d 0 1000000000 3=false:=by unfold inR;simp[hd]
  simp[hd,this]
theorem Fo (d:ak) (above:Bool):jm d above=some (qOk d (!above),()):=by
 unfold jm qOk
 rw[FQ,ace]
 by_cases hd:cD d
 ·have h2:cD (1000000000,0):=by decide
  have hc:Ig d (1000000000,0)=some ((tv d - tv (1000000000,0)).sign,()):=U8 hd h2
  have e9:tv (1000000000,0)=1000000000*10 ^ 9:=rfl
  have hs:decide ((tv d - tv (1000000000,0)).sign≤0)=decide (d.1≤1000000000*10 ^ d.2.toNat):=by
   rw[acs, ← XQ hd.2.1 hd.2.2, ← e9,Int.sign_nonpos_iff];omega
  rw[hc,acF hd]
  dsimp only
  rw[show ((0:Int)==0)=true from rfl,acr,ace]
  dsimp only
  rw[hs]
  have e:inR d 0 1000000000 3=(decide (d.2≤3)&&(decide (d.1≥0)&&decide (d.1≤1000000000*10 ^ d.2.toNat))):=by
   unfold inR
   rw[← Bool.decide_and, ← Bool.decide_and,acs,Int.zero_mul]
   constructor
   ·rintro⟨_,h2,h3,h4⟩;exact⟨h2,h3,h4⟩
   ·rintro⟨h2,h3,h4⟩;exact⟨hd,h2,h3,h4⟩
  have hz:(d.1==0)=(decide (d.1≥0)&& !decide (d.1>0)):=by
   by_cases h:d.1=0
   ·rw[show (d.1==0)=true by simpa using h,h];rfl
   ·rw[show (d.1==0)=false by simpa using h]
    by_cases h3:d.1>0
    ·simp[h3]
    ·have:¬ d.1≥0:=by omega
     simp[this]
  rw[e,hz]
  have himp:d.1>0→d.1≥0:=fun h=>by omega
  cases h5:decide (d.1>0)<;>cases decide (d.2≤3)<;>cases h6:decide (d.1≥0)<;>cases decide (d.1≤1000000000*10 ^ d.2.toNat)<;>cases above<;>simp_all
 ·have:inR d 0 1000000000 3=false:=by unfold inR;simp[hd]
  simp[hd,this]
end Go.Md
namespace Go.Md
open Go.Dn
theorem lM (l:List ah) (t:List UInt8) (hl:l.length<1000000000):gh l t=some (ixI (dh (·.1) t l),()):=by
 unfold gh
 have loop:∀ f,l.length<f→iter f ((t,l,(l.length:Int),(0:Int),()):lN) pN=(match dh (·.1) t l with | some k=>some (Sum.inl ((k:Int),())) | none=>some (Sum.inr ())):=by
  intro f hf
  refine bI (Inv:=fun i X=>X=((t,l,(l.length:Int),(i:Int),()):lN)∧∀ j x,j<i→l[j]? =some x→x.1≠t) l.length
   (fun r=>r=(match dh (·.1) t l with | some k=>some (Sum.inl ((k:Int),())) | none=>some (Sum.inr ()))) ?_ ?_ f 0 _ ⟨rfl,fun _ _ h=>absurd h (ab4 _)⟩ (by omega) (by omega)
  ·rintro i _ again hi ⟨rfl,hb⟩ ih
   unfold pN
   dsimp only
   have hy:l[i]? =some l[i]:=aF hi
   generalize l[i]=y at hy
   rw[aC (by omega),bD,hy,ace]
   by_cases he:y.1=t
   ·rw[show (y.1==t)=true by simpa using he,acr]
    have:dh (·.1) t l=some i:=by
     unfold dh
     rw[List.findIdx?_eq_some_iff_getElem]
     refine⟨hi, ?_,fun j hj=> ?_⟩
     ·have:=(aaL.1 hy).2
      rw[this];simpa using he
     ·have:=hb j l[j] hj (aaJ _)
      simpa using this
    rw[this]
   ·rw[show (y.1==t)=false by simpa using he,acq,aA (by omega) (by omega)]
    refine ih _ ⟨rfl,fun j x hj hx=> ?_⟩
    rcases abX.1 hj with h | h
    ·exact hb j x h hx
    ·subst h;rw[hy] at hx;cases hx;exact he
  ·rintro _ again ⟨rfl,hb⟩
   unfold pN
   dsimp only
   rw[aH (by omega)]
   have:dh (·.1) t l=none:=by
    unfold dh
    rw[List.findIdx?_eq_none_iff]
    intro x hx
    obtain⟨j,hj⟩:=abd.1 hx
    have:=hb j x (aaL.1 hj).1 hj
    simpa using this
   rw[this]
 rw[loop _ (by omega)]
 cases dh (·.1) t l<;>rfl
theorem My (l:List ah) (t:List UInt8) (hl:l.length<1000000000) (hs:Asc (·.1) l):
 ∃ i:Nat,cw l t ()=some ((i:Int),(dh (·.1) t l).isSome,())∧∀ k,dh (·.1) t l=some k→i=k:=by
 unfold cw
 have loop:∀ f,l.length<f→∃ i:Nat,iter f ((l,t,(),(l.length:Int),(0:Int),(l.length:Int),()):bP) dw=some (Sum.inr (l,t,(),(l.length:Int),(i:Int),()))∧i≤l.length∧(∀ k x,l[k]? =some x→k<i→Op.bytesLess x.1 t=true)∧∀ k x,l[k]? =some x→i≤k→Op.bytesLess x.1 t=false:=by
  intro f hf
  refine uw (Inv:=fun X=>∃ i j:Nat,X=((l,t,(),(l.length:Int),(i:Int),(j:Int),()):bP)∧i≤j∧j≤l.length∧(∀ k x,l[k]? =some x→k<i→Op.bytesLess x.1 t=true)∧∀ k x,l[k]? =some x→j≤k→Op.bytesLess x.1 t=false)
   (fun X=>(X.2.2.2.2.2.1 - X.2.2.2.2.1).toNat)
   (fun _ r=>∃ i:Nat,r=some (Sum.inr (l,t,(),(l.length:Int),(i:Int),()))∧i≤l.length∧(∀ k x,l[k]? =some x→k<i→Op.bytesLess x.1 t=true)∧∀ k x,l[k]? =some x→i≤k→Op.bytesLess x.1 t=false) ?_ f _ ⟨0,l.length,rfl,by omega,by omega,fun _ _ _ h=>absurd h (ab4 _),fun k x hk hle=>by have:=(aaL.1 hk).1;omega⟩ (by dsimp only;omega)
  rintro _ again ⟨i,j,rfl,hij,hj,h1,h2⟩ ih
  dsimp only at ih
  unfold dw
  dsimp only
  by_cases hlt:i<j
  ·rw[aC (by omega)]
   have em:w64 (Int.fdiv (bQ (w64 ((i:Int)+(j:Int)))) (2 ^ 1))=(((i+j) / 2:Nat):Int):=by
    rw[aA (n:=(i:Int)+(j:Int)) (by omega) (by omega),cO (by omega) (by omega),Z1 _ (by omega),aA (by omega) (by omega)]
    omega
   rw[em]
   have hm:(i+j) / 2<l.length:=by omega
   have hy:l[(i+j) / 2]? =some l[(i+j) / 2]:=aF hm
   have hmi:i≤(i+j) / 2∧(i+j) / 2<j:=by omega
   generalize (i+j) / 2=m at*
   generalize l[m]=y at hy
   rw[bD,hy,ace]
   show ∃ i,Option.bind (Option.bind (some (Lib.compareBytes y.1 t,())) fun r1=>some (r1.1,())) _=_∧_
   rw[ace,ace]
   dsimp only
   by_cases hc:Lib.compareBytes y.1 t<0
   ·rw[aC hc,aA (by omega) (by omega)]
    refine ih _ ⟨m+1,j,rfl,by omega,hj,fun k x hk hkm=> ?_,h2⟩ (by dsimp only;omega)
    rcases abX.1 hkm with h | h
    ·have:=hs k m x y h hk hy
     exact jw this (wo.1 hc)
    ·subst h;rw[hy] at hk;cases hk;exact wo.1 hc
   ·rw[aH hc]
    refine ih _ ⟨i,m,rfl,by omega,by omega,h1,fun k x hk hkm=> ?_⟩ (by dsimp only;omega)
    have hc':Op.bytesLess y.1 t=false:=by
     cases h:Op.bytesLess y.1 t with
     | false=>rfl
     | true=>exact absurd (wo.2 h) hc
    rcases Nat.lt_or_eq_of_le hkm with h | h
    ·cases hx:Op.bytesLess x.1 t with
     | false=>rfl
     | true=>rw[jw (hs m k y x h hy hk) hx] at hc';cases hc'
    ·subst h;rw[hy] at hk;cases hk;exact hc'
  ·rw[aH (by omega)]
   have:i=j:=by omega
   subst this
   exact⟨i,rfl,hj,h1,h2⟩
 obtain⟨i,h1,h2,h3,h4⟩:=loop (List.length l+(List.length t+(Int.natAbs ((List.length l:Int))+(Int.natAbs (0:Int)+(Int.natAbs ((List.length l:Int))+2))))) (by omega)
 refine⟨i, ?_,fun k hk=> ?_⟩
 ·rw[h1,aV]
  dsimp only
  by_cases hi:i<l.length
  ·have hy:l[i]? =some l[i]:=aF hi
   generalize l[i]=y at hy
   rw[aC (by omega),bD,hy,ace]
   show Option.bind (Option.bind (some (Lib.compareBytes y.1 t,())) fun r1=>some (r1.1,())) _=_
   rw[ace,ace]
   congr 3
   by_cases he:y.1=t
   ·rw[TS hs hy he,x4.2 he];rfl
   ·have hne:¬ Lib.compareBytes y.1 t=0:=fun h=>he (x4.1 h)
    rw[show (Lib.compareBytes y.1 t==0)=false by simpa using hne]
    cases hx:dh (·.1) t l with
    | none=>rfl
    | some k=>
     exfalso
     obtain⟨x,k1,k2⟩:=ux hx
     rcases abZ k i with h | h | h
     ·have:=h3 k x k1 h;rw[k2,eW] at this;cases this
     ·subst h;rw[hy] at k1;cases k1;exact he k2
     ·have:=hs i k y x h hy k1
      dsimp only at this
      rw[k2,h4 i y hy (abP _)] at this;cases this
  ·rw[aH (by omega)]
   congr 3
   cases hx:dh (·.1) t l with
   | none=>rfl
   | some k=>
    exfalso
    obtain⟨x,k1,k2⟩:=ux hx
    have:=h3 k x k1 (by have:=(aaL.1 k1).1;omega)
    rw[k2,eW] at this;cases this
 ·obtain⟨x,k1,k2⟩:=ux hk
  rcases abZ k i with h | h | h
  ·have:=h3 k x k1 h;rw[k2,eW] at this;cases this
  ·exact h.symm
  ·have hy:l[i]? =some (l[i]'(by have:=(aaL.1 k1).1;omega)):=aF _
   have:=hs i k _ x h hy k1
   dsimp only at this
   rw[k2,h4 i _ hy (abP _)] at this;cases this
theorem qu (a:aS) (t:List UInt8) (hl:a.2.2.2.length<1000000000) (hs:Asc (·.1) a.2.2.2):
 ∃ i:Nat,iK a t=some ((i:Int),(dh (·.1) t a.2.2.2).isSome,())∧∀ k,dh (·.1) t a.2.2.2=some k→i=k:=by
 obtain⟨i,h1,h2⟩:=My a.2.2.2 t hl hs
 exact⟨i,by unfold iK;rw[h1,ace],h2⟩
def Cp (a b:ai):Int:=cr (fun _ y=>y) 0 [Lib.compareBytes a.1 b.1,Lib.compareBytes a.2.1 b.2.1,Lib.compareBytes a.2.2.1 b.2.2.1]
theorem VD (l:List Int) (hl:l.length<1000):zA l=some (cr (fun _ y=>y) 0 l,()):=by
 unfold zA
 rw[fk (f:=sJ) (fun i=>(((0:Int),l,(l.length:Int),(i:Int),()):sK)) l (fun _ y=>y) (0,()) ?_ ?_ ?_ _ ?_]
 ·exact (YZ _ _ _ 0 rfl).trans (by
   by_cases h:cr (fun _ y=>y) 0 l=0
   ·rw[acE (by simpa using h),h]
   ·rw[acF h])
 ·rfl
 ·intro i y again hy
  have hi:=(aaL.1 hy).1
  unfold sJ
  dsimp only
  rw[aC (by omega),bD,hy,ace,aA (by omega) (by omega)]
  by_cases h:y=0
  ·subst h;rfl
  ·rw[show (y != 0)=true by simpa using h,acr,acE h]
 ·intro again
  unfold sJ
  dsimp only
  rw[aH (by omega)]
 ·omega
theorem zS (a b:ai):fe a b=some (Cp a b,()):=by
 unfold fe strings_Compare Cp
 simp only[ace]
 rw[VD _ (by simp),ace]
theorem vY (a b:ai):fE a b=some (Cp a b,()):=by
 unfold fE strings_Compare Cp
 simp only[ace]
 generalize hL:[Lib.compareBytes a.1 b.1,Lib.compareBytes a.2.1 b.2.1,Lib.compareBytes a.2.2.1 b.2.2.1]=l
 have hl:l.length=3:=by subst hL;rfl
 rw[fk (f:=ko) (fun i=>((l,(l.length:Int),(i:Int),()):kr)) l (fun _ y=>y) () ?_ ?_ ?_ _ ?_]
 ·exact Qc _ _
 ·rfl
 ·intro i y again hy
  have hi:=(aaL.1 hy).1
  unfold ko
  dsimp only
  rw[aC (by omega),bD,hy,ace,aA (by omega) (by omega)]
  by_cases h:y=0
  ·subst h;rfl
  ·rw[show (y != 0)=true by simpa using h,acr,acE h]
 ·intro again
  unfold ko
  dsimp only
  rw[aH (by omega)]
 ·omega
def EM (l:List ai) (i:Nat) (y:ai):Bool:=match i with
 | 0=>false
 | i+1=>match l[i]? with
  | some p=>decide (Cp p y≥0)
  | none=>false
def BT (l:List ai) (i:Nat) (c:ai):Int:=
 if eZ c.1=false then 5 else if eZ c.2.1=false then 5 else if (!(c.2.2.1==[])&& !eZ c.2.2.1)=true then 5
 else if EM l i c=true then 8 else if qOk c.2.2.2 false=true then 0 else 1
def iV (l:List ai):Int:=if 100<l.length then 2 else cr (BT l) 0 l
theorem B7 {α:Type} {l:List α} {i:Nat} (hi:i<l.length) (hl:l.length<1000000000):idx l (w64 (((i+1:Nat):Int) - 1))=l[i]? :=by
 rw[aA (by omega) (by omega),show ((i+1:Nat):Int) - 1=((i:Nat):Int) by omega,bD]
theorem BL (l:List ai):gf l=some (iV l,()):=by
 unfold gf iV
 by_cases hb:100<l.length
 ·rw[aC (by omega),acF hb]
 ·rw[aH (by omega),acE hb]
  rw[fk (f:=gB) (fun i=>((l,l,(l.length:Int),(i:Int),()):gC)) l (BT l) () ?_ ?_ ?_ _ ?_]
  ·exact Qc _ _
  ·rfl
  ·intro i y again hy
   have hi:=(aaL.1 hy).1
   unfold gB
   dsimp only
   rw[aC (by omega),bD,hy,ace]
   simp only[yU,ace,sg,zS]
   have hw:w64 ((i:Int)+1)=((i+1:Nat):Int):=by rw[aA (by omega) (by omega)];omega
   rw[hw]
   unfold BT
   generalize qOk y.2.2.2 false=q
   cases i with
   | zero=>
    simp only[EM]
    cases eZ y.1<;>cases eZ y.2.1<;>cases (y.2.2.1==[])<;>cases eZ y.2.2.1<;>cases q<;>simp
   | succ i=>
    have hp:l[i]? =some (l[i]'(by omega)):=aF (by omega)
    have ep:EM l (i+1) y=decide (Cp (l[i]'(by omega)) y≥0):=by simp only[EM,hp]
    have hpos:decide (((i+1:Nat):Int)>0)=true:=by simp
    rw[B7 (by omega) (by omega),hp,ep,hpos]
    simp only[ace,acr]
    generalize decide (Cp (l[i]'(by omega)) y≥0)=p
    cases eZ y.1<;>cases eZ y.2.1<;>cases (y.2.2.1==[])<;>cases eZ y.2.2.1<;>cases q<;>cases p<;>simp
  ·intro again
   unfold gB
   dsimp only
   rw[aH (by omega)]
  ·omega
theorem EO (l:List ai):jd l=some (iV l,()):=by
 unfold jd iV
 by_cases hb:100<l.length
 ·rw[aC (by omega),acF hb]
 ·rw[aH (by omega),acE hb]
  rw[fk (f:=jk) (fun i=>((l,l,(l.length:Int),(i:Int),()):jl)) l (BT l) () ?_ ?_ ?_ _ ?_]
  ·exact Qc _ _
  ·rfl
  ·intro i y again hy
   have hi:=(aaL.1 hy).1
   unfold jk
   dsimp only
   rw[aC (by omega),bD,hy,ace]
   simp only[AW,ace,Fo,vY,ZX]
   have hw:w64 ((i:Int)+1)=((i+1:Nat):Int):=by rw[aA (by omega) (by omega)];omega
   rw[hw]
   unfold BT
   generalize qOk y.2.2.2 false=q
   cases i with
   | zero=>
    simp only[EM]
    cases eZ y.1<;>cases eZ y.2.1<;>cases (y.2.2.1==[])<;>cases eZ y.2.2.1<;>cases q<;>simp
   | succ i=>
    have hp:l[i]? =some (l[i]'(by omega)):=aF (by omega)
    have ep:EM l (i+1) y=decide (Cp (l[i]'(by omega)) y≥0):=by simp only[EM,hp]
    have hpos:decide (((i+1:Nat):Int)>0)=true:=by simp
    rw[B7 (by omega) (by omega),hp,ep,hpos]
    simp only[ace,acr]
    generalize decide (Cp (l[i]'(by omega)) y≥0)=p
    cases eZ y.1<;>cases eZ y.2.1<;>cases (y.2.2.1==[])<;>cases eZ y.2.2.1<;>cases q<;>cases p<;>simp
  ·intro again
   unfold jk
   dsimp only
   rw[aH (by omega)]
  ·omega
def zT (l:List ah) (i:Nat) (y:ah):Bool:=match i with
 | 0=>false
 | i+1=>match l[i]? with
  | some p=>Op.bytesLess y.1 p.1||y.1==p.1
  | none=>false
def jY (l:List ah) (i:Nat) (p:ah):Int:=
 if lbl p.1=false then 3 else if zT l i p=true then 8 else if qOk p.2.2.1 true=false then 1 else iV p.2.2.2
theorem DA (l:List ah) (i:Nat) (y:ah) (hy:l[i]? =some y) (hl:l.length<1000000000) (hs:y.1.length≤9223372036854775807):lG l (i:Int)=some (jY l i y,()):=by
 have hi:=(aaL.1 hy).1
 unfold lG jY
 rw[bD,hy,ace,I5 _ hs]
 simp only[ace,sg,BL]
 cases i with
 | zero=>
  simp only[zT]
  cases lbl y.1<;>cases qOk y.2.2.1 true<;>simp
 | succ i=>
  have hp:l[i]? =some (l[i]'(by omega)):=aF (by omega)
  have ep:zT l (i+1) y=(Op.bytesLess y.1 (l[i]'(by omega)).1||y.1==(l[i]'(by omega)).1):=by simp only[zT,hp]
  have hpos:decide (((i+1:Nat):Int)>0)=true:=by simp
  rw[B7 (by omega) hl,hp,ep,hpos]
  simp only[ace,acr]
  generalize (Op.bytesLess y.1 (l[i]'(by omega)).1||y.1==(l[i]'(by omega)).1)=p
  cases lbl y.1<;>cases qOk y.2.2.1 true<;>cases p<;>simp
end Go.Md
namespace Go.Md
open Go.Dn
def par (l:List ah) (k:Nat):Option Nat:=match l[k]? with
 | some p=>if p.2.1=[] then none else dh (·.1) p.2.1 l
 | none=>none
theorem AN {l:List ah} {k k':Nat} (h:par l k=some k'):k'<l.length:=by
 unfold par at h
 split at h
 ·split at h
  ·cases h
  ·obtain⟨x,hx,_⟩:=ux h
   exact (aaL.1 hx).1
 ·cases h
def BP (l:List ah):Prop:=∀ p∈l,p.2.1=[]∨(dh (·.1) p.2.1 l).isSome=true
theorem NI {l:List ah} {k:Nat} {p:ah} (h1:BP l) (hp:l[k]? =some p):(p.2.1=[]∧par l k=none)∨(p.2.1≠[]∧∃ k',par l k=some k'∧dh (·.1) p.2.1 l=some k'):=by
 unfold par
 rw[hp]
 dsimp only
 by_cases h:p.2.1=[]
 ·exact .inl ⟨h,by rw[acF h]⟩
 ·right
  rw[acE h]
  rcases h1 p (abf hp) with h2 | h2
  ·exact absurd h2 h
  ·obtain⟨k',hk'⟩:=ach.1 h2
   exact⟨h,k',hk',hk'⟩
def ou (l:List ah):Prop:=∀ k,k<l.length→¬ gE (par l) k
def eL (l:List ah) (i:Nat):List Nat:=anc (par l) l.length i
theorem Ah {l:List ah} (h:ou l) {i:Nat} (hi:i<l.length):(eL l i).length<l.length:=XK (fun _ _=>AN) h hi
theorem F5 {l:List ah} (h:ou l) {i k:Nat} (hi:i<l.length) (hp:par l i=some k):eL l i=k::eL l k:=by
 have h1:=Ah h hi
 unfold eL at*
 rw[← Oa h1 (show l.length≤l.length+1 by omega),wh hp]
theorem N9 {l:List ah} {i:Nat} (hp:par l i=none):eL l i=[]:=JF hp _
theorem XJ {l:List ah} {i x:Nat} (h:x∈eL l i):x<l.length:=Qk (fun _ _=>AN) h
theorem Ur {l:List ah} (h:ou l) {i:Nat} (hi:i<l.length):(i::eL l i).Nodup:=F6 (fun _ _=>AN) h hi
def cI (l:List Nat):List Int:=l.map (fun n:Nat=>(n:Int))
theorem KN {l:List Nat} {x:Nat}:(x:Int)∈cI l↔x∈l:=by
 unfold cI
 rw[abe]
 constructor
 ·rintro⟨a,h1,h2⟩;have:a=x:=by omega
  exact this ▸ h1
 ·intro h;exact⟨x,h,rfl⟩
theorem fH (l:List Nat):(cI l).length=l.length:=by simp[cI]
theorem AO (a:aS) (hl:a.2.2.2.length≤500) (hs:Asc (·.1) a.2.2.2) (h1:BP a.2.2.2) (i:Nat) (hi:i<a.2.2.2.length):
 ∃ (out:List Nat) (ok:Bool),iO a (i:Int)=some (cI out,ok,())∧(ok=false↔gE (par a.2.2.2) i)∧(ou a.2.2.2→out=eL a.2.2.2 i):=by
 unfold iO
 have hat:=fun t=>qu a t (by omega) hs
 obtain⟨a1,a2,a3,l⟩:=a
 dsimp only at*
 have loop:∀ f,l.length+1<f→∃ (out:List Nat) (ok:Bool),(iter f (((i:Int),([]:List Int),(i:Int),a1,a2,a3,l,()):gL) nM=(if ok=true then (some (Sum.inr (cI out,())):Option fD) else some (Sum.inl (cI out,false,())))∨(ok=true∧iter f (((i:Int),([]:List Int),(i:Int),a1,a2,a3,l,()):gL) nM=(some (Sum.inl (cI out,true,())):Option fD)))∧(ok=false↔gE (par l) i)∧(ou l→out=eL l i):=by
  intro f hf
  refine uw (Inv:=fun X=>∃ (out:List Nat) (k:Nat),X=(((i:Int),cI out,(k:Int),a1,a2,a3,l,()):gL)∧k<l.length∧out.Nodup∧(∀ x∈out,x<l.length)∧(∃ j,itp (par l) j i=some k)∧(gE (par l) i→∃ d,tq (par l) i k d∧∀ x∈out,∃ e,d≤e∧tq (par l) i x e)∧(ou l→out++eL l k=eL l i))
   (fun X=>l.length+1 - X.2.1.length)
   (fun _ r=>∃ (out:List Nat) (ok:Bool),(r=(if ok=true then (some (Sum.inr (cI out,())):Option fD) else some (Sum.inl (cI out,false,())))∨(ok=true∧r=(some (Sum.inl (cI out,true,())):Option fD)))∧(ok=false↔gE (par l) i)∧(ou l→out=eL l i)) ?_ f _
   ⟨[],i,rfl,hi,by simp,by simp,⟨0,rfl⟩,fun hon=>by obtain⟨d,hd⟩:=hon.WU;exact⟨d,hd,by simp⟩,fun _=>by simp⟩ (by dsimp only;simp;omega)
  rintro _ again ⟨out,k,rfl,hk,hnd,hlt,⟨j,hj⟩,hon,hno⟩ ih
  dsimp only at ih
  have hlen:=yg l.length out hnd hlt
  unfold nM
  dsimp only
  have hy:l[k]? =some l[k]:=aF hk
  generalize l[k]=p at hy
  rw[bD,hy,ace,ace]
  rcases NI h1 hy with ⟨g1,g2⟩ | ⟨g1,k',g2,g3⟩
  ·rw[g1]
   refine⟨out,true,.inl rfl, ?_,fun hn=> ?_⟩
   ·constructor
    ·intro h;cases h
    ·intro h
     obtain⟨d,hd,_⟩:=hon h
     obtain⟨k',e,_⟩:=hd.step
     rw[g2] at e;cases e
   ·have:=hno hn
    rw[N9 g2,aal] at this
    exact this
  ·have hk':=AN g2
   rw[show (!(p.2.1==[]))=true by cases hp:p.2.1<;>simp_all,acr]
   obtain⟨q,hq1,hq2⟩:=hat p.2.1
   have:q=k':=hq2 k' g3
   subst this
   rw[hq1,ace]
   dsimp only
   by_cases e1:q=i
   ·subst e1
    rw[show ((q:Int)==(q:Int))=true by simp,acr]
    have hloop:gE (par l) q:=⟨j,by rw[Dt (b:=1) hj];simp[itp,g2]⟩
    exact⟨[],false,.inl rfl,⟨fun _=>hloop,fun _=>rfl⟩,fun hn=>absurd hloop (hn q hi)⟩
   ·rw[show ((q:Int)==(i:Int))=false by rw[acn];omega,acq,mm _ _ (by rw[fH];omega),ace]
    by_cases e2:q∈out
    ·rw[acw (KN.2 e2),acr]
     refine⟨out,true,.inr ⟨rfl,rfl⟩,⟨fun h=>(by cases h),fun h=> ?_⟩,fun hn=> ?_⟩
     ·obtain⟨d,hd,hx⟩:=hon h
      obtain⟨k2,e,h2⟩:=hd.step
      rw[g2] at e;cases e
      rcases h2 with ⟨h2,_⟩ | ⟨_,e,he,h3⟩
      ·exact absurd h2 e1
      ·obtain⟨f',hf',hx'⟩:=hx q e2
       have:=h3.uniq hx'
       omega
     ·exfalso
      have h3:=hno hn
      have h4:=(abn.1 (Ur hn hi)).2
      rw[← h3,F5 hn hk g2,List.nodup_append] at h4
      exact h4.2.2 q e2 q (by simp) rfl
    ·rw[acu (fun h=>e2 (KN.1 h)),acq,aY (iE (by rw[fH];omega) (by rw[fH];omega))]
     refine ih _ ⟨out++[q],q,by simp[cI],hk', ?_, ?_,⟨j+1, ?_⟩,fun h=> ?_,fun hn=> ?_⟩ (by simp[fH];omega)
     ·rw[List.nodup_append]
      exact⟨hnd,by simp,fun x hx y hy=>by simp at hy;subst hy;exact fun e=>e2 (e ▸ hx)⟩
     ·intro x hx
      rcases aa8.1 hx with hx | hx
      ·exact hlt x hx
      ·simp at hx;omega
     ·rw[Dt (b:=1) hj];simp[itp,g2]
     ·obtain⟨d,hd,hx⟩:=hon h
      obtain⟨k2,e,h2⟩:=hd.step
      rw[g2] at e;cases e
      rcases h2 with ⟨h2,_⟩ | ⟨_,e,he,h3⟩
      ·exact absurd h2 e1
      ·refine⟨e,h3,fun x hx2=> ?_⟩
       rcases aa8.1 hx2 with hx2 | hx2
       ·obtain⟨f',hf',hx'⟩:=hx x hx2;exact⟨f',by omega,hx'⟩
       ·simp at hx2;subst hx2;exact⟨e,abP _,h3⟩
     ·rw[← hno hn,F5 hn hk g2,aak];rfl
 obtain⟨out,ok,h2,h3,h4⟩:=loop (Int.natAbs (i:Int)+(List.length ([]:List Int)+(Int.natAbs (i:Int)+(List.length a1+(List.length a2+(Int.natAbs a3+(List.length l+2))))))) (by omega)
 refine⟨out,ok, ?_,h3,h4⟩
 rcases h2 with h2 | ⟨h5,h2⟩
 ·rw[h2]
  cases ok<;>rfl
 ·rw[h2,h5];rfl
end Go.Md
namespace Go.Md
open Go.Dn
theorem R4 (l:List ah) (hl:l.length≤500) (h1:BP l) (i:Nat) (hi:i<l.length):∃ b:Bool,B8 l (i:Int)=some (b,())∧(b=true↔gE (par l) i):=by
 unfold B8
 have loop:∀ f,l.length<f→∃ b:Bool,iter f ((l,(i:Int),(i:Int),(l.length:Int),(0:Int),()):mS) qx=(if b=true then some (Sum.inl (true,())) else some (Sum.inr ()))∧(b=true↔gE (par l) i)∨
  iter f ((l,(i:Int),(i:Int),(l.length:Int),(0:Int),()):mS) qx=some (Sum.inl (false,()))∧¬ gE (par l) i:=by
  intro f hf
  refine bI (Inv:=fun c X=>∃ k:Nat,X=((l,(i:Int),(k:Int),(l.length:Int),(c:Int),()):mS)∧k<l.length∧itp (par l) c i=some k∧∀ e,e<c→itp (par l) (e+1) i≠some i) l.length
   (fun r=>∃ b:Bool,r=(if b=true then some (Sum.inl (true,())) else some (Sum.inr ()))∧(b=true↔gE (par l) i)∨r=some (Sum.inl (false,()))∧¬ gE (par l) i) ?_ ?_ f 0 _ ⟨i,rfl,hi,rfl,fun e h=>absurd h (ab4 _)⟩ (by omega) (by omega)
  ·rintro c _ again hc ⟨k,rfl,hk,hit,hne⟩ ih
   unfold qx
   dsimp only
   have hy:l[k]? =some l[k]:=aF hk
   generalize l[k]=p at hy
   rw[aC (by omega),bD,hy,ace,ace]
   rcases NI h1 hy with ⟨g1,g2⟩ | ⟨g1,k',g2,g3⟩
   ·rw[g1]
    refine⟨false,.inr ⟨rfl,fun hon=> ?_⟩⟩
    obtain⟨d,hd⟩:=hon.WU
    rcases abV d c with h | h
    ·exact hne d h hd.1
    ·have:=hd.1
     rw[show d+1=c+(d - c+1) by omega,Dt hit] at this
     simp[itp,g2] at this
   ·have hk':=AN g2
    rw[show (p.2.1==[])=false by cases hp:p.2.1<;>simp_all,acq,lM l _ (by omega),g3,ace]
    dsimp only[ixI]
    have hit':itp (par l) (c+1) i=some k':=by rw[Dt hit];simp[itp,g2]
    by_cases e1:k'=i
    ·subst e1
     rw[show ((k':Int)==(k':Int))=true by simp,acr]
     exact⟨true,.inl ⟨rfl,⟨fun _=>⟨c,hit'⟩,fun _=>rfl⟩⟩⟩
    ·rw[show ((k':Int)==(i:Int))=false by rw[acn];omega,acq,aA (by omega) (by omega)]
     refine ih _ ⟨k',rfl,hk',hit',fun e he=> ?_⟩
     rcases abX.1 he with h | h
     ·exact hne e h
     ·subst h;rw[hit'];simpa using e1
  ·rintro _ again ⟨k,rfl,hk,hit,hne⟩
   unfold qx
   dsimp only
   rw[aH (by omega)]
   refine⟨false,.inl ⟨rfl,⟨fun h=>(by cases h),fun hon=> ?_⟩⟩⟩
   obtain⟨d,hd⟩:=hon.WU
   have:=hd.le (fun _ _=>AN) hi
   exact absurd hd.1 (hne d (by omega))
 obtain⟨b,h⟩:=loop (List.length l+(Int.natAbs (i:Int)+(Int.natAbs (i:Int)+(Int.natAbs ((List.length l:Int))+(Int.natAbs (0:Int)+2))))) (by omega)
 rcases h with ⟨h2,h3⟩ | ⟨h2,h3⟩
 ·exact⟨b,by rw[h2];cases b<;>rfl,h3⟩
 ·exact⟨false,by rw[h2];rfl,⟨fun h=>(by cases h),fun h=>absurd h h3⟩⟩
theorem HA (l:List ah) (hl:l.length≤500) (h1:BP l) (hn:ou l) (i:Nat) (hi:i<l.length):Hy l (i:Int)=some (cI (i::eL l i),true,()):=by
 unfold Hy
 have loop:∀ f,l.length<f→iter f ((l,(i:Int),[(i:Int)],()):yx) Hz=some (Sum.inr (cI (i::eL l i),())):=by
  intro f hf
  refine uw (Inv:=fun X=>∃ (pre:List Nat) (k:Nat),X=((l,(k:Int),cI pre,()):yx)∧k<l.length∧pre++eL l k=i::eL l i) (fun X=>l.length+1 - X.2.2.1.length)
   (fun _ r=>r=some (Sum.inr (cI (i::eL l i),()))) ?_ f _ ⟨[i],i,rfl,hi,rfl⟩ (by dsimp only;simp;omega)
  rintro _ again ⟨pre,k,rfl,hk,hpre⟩ ih
  dsimp only at ih
  have hlen:pre.length+(eL l k).length=(eL l i).length+1:=by
   have:=congrArg List.length hpre
   simpa using this
  have hlt:=Ah hn hi
  unfold Hz
  dsimp only
  have hy:l[k]? =some l[k]:=aF hk
  generalize l[k]=p at hy
  rw[bD,hy,ace,ace]
  rcases NI h1 hy with ⟨g1,g2⟩ | ⟨g1,k',g2,g3⟩
  ·rw[g1]
   rw[N9 g2,aal] at hpre
   rw[hpre]
   rfl
  ·have hk':=AN g2
   rw[show (!(p.2.1==[]))=true by cases hp:p.2.1<;>simp_all,acr,lM l _ (by omega),g3,ace]
   dsimp only[ixI]
   rw[aH (by rw[fH];omega),aY (iE (by rw[fH];omega) (by rw[fH];omega))]
   refine ih _ ⟨pre++[k'],k',by simp[cI],hk', ?_⟩ (by simp[fH];omega)
   rw[← hpre,F5 hn hk g2,aak];rfl
 rw[loop _ (by simp only[aaX,aa0];omega),aV]
def n1 (l:List ah) (p:ah):Int:=if p.2.1≠[]∧(dh (·.1) p.2.1 l).isSome=false then 9 else 0
open Classical in
noncomputable def n2 (l:List ah) (i:Nat):Int:=if gE (par l) i then 17 else 0
def n3 (l:List ah) (i:Nat):Int:=if 5<(eL l i).length then 2 else 0
def RC (l:List ah):Int:=cr (fun _ p=>n1 l p) 0 l
noncomputable def RD (l:List ah):Int:=cr (fun i _=>n2 l i) 0 l
def YO (l:List ah):Int:=cr (fun i _=>n3 l i) 0 l
noncomputable def Ic (l:List ah):Int:=if RC l≠0 then RC l else if RD l≠0 then RD l else YO l
theorem CE {l:List ah} (h:RC l=0):BP l:=by
 intro p hp
 obtain⟨i,hi⟩:=abd.1 hp
 have:=gT h i p hi
 unfold n1 at this
 by_cases h1:p.2.1=[]
 ·exact .inl h1
 ·cases h2:(dh (fun x:ah=>x.1) p.2.1 l).isSome with
  | true=>exact .inr rfl
  | false=>rw[acF ⟨h1,h2⟩] at this;omega
theorem CF {l:List ah} (h:RD l=0):ou l:=by
 intro k hk hon
 have:=gT h k l[k] (aF hk)
 unfold n2 at this
 rw[ab9,acF hon] at this
 omega
theorem DJ {γ:Type} (s:Int) (u:γ) (k:γ→Option (Int×Unit)) (z:Int) (hk:s=0→k u=some (z,())):aX (β:=Int×Unit) (γ:=γ) (if s=0 then some (Sum.inr u) else some (Sum.inl (s,()))) k=some (if s≠0 then s else z,()):=by
 by_cases h:s=0
 ·rw[acF h,aV,hk h,acE (by simpa using h)]
 ·rw[acE h,lu,acF h]
theorem WB {γ:Type} (s:Int) (u:γ):aX (β:=Int×Unit) (γ:=γ) (if s=0 then some (Sum.inr u) else some (Sum.inl (s,()))) (fun _=>some (0,()))=some (s,()):=Qc s u
theorem FP (a:aS) (hl:a.2.2.2.length≤500) (hs:Asc (·.1) a.2.2.2):nN a=some (Ic a.2.2.2,()):=by
 unfold nN Ic
 have hat:=fun t=>qu a t (by omega) hs
 have har:=fun h1 i hi=>AO a hl hs h1 i hi
 obtain⟨a1,a2,a3,l⟩:=a
 dsimp only at*
 rw[fk (f:=jZ) (fun i=>((l,(l.length:Int),(i:Int),a1,a2,a3,l,()):ki)) l (fun _ p=>n1 l p) (a1,a2,a3,l,()) ?_ ?_ ?_ _ ?_]
 ·refine DJ _ _ _ _ fun z1=> ?_
  have h1:=CE z1
  dsimp only
  rw[fk (f:=kg) (fun i=>(((l.length:Int),(i:Int),a1,a2,a3,l,()):kj)) l (fun i _=>n2 l i) (a1,a2,a3,l,()) ?_ ?_ ?_ _ ?_]
  ·refine DJ _ _ _ _ fun z2=> ?_
   have h2:=CF z2
   dsimp only
   rw[fk (f:=ji) (fun i=>(((l.length:Int),(i:Int),a1,a2,a3,l,()):jj)) l (fun i _=>n3 l i) () ?_ ?_ ?_ _ ?_]
   ·exact WB _ _
   ·rfl
   ·intro i y again hy
    have hi:=(aaL.1 hy).1
    unfold ji
    dsimp only
    obtain⟨out,ok,g1,g2,g3⟩:=har h1 i hi
    rw[aC (by omega),g1,ace,aA (by omega) (by omega)]
    dsimp only
    rw[g3 h2,fH]
    unfold n3
    by_cases h5:5<(eL l i).length
    ·rw[aC (by omega),acF h5,acE (by omega)]
    ·rw[aH (by omega),acE h5,acF rfl];rfl
   ·intro again
    unfold ji
    dsimp only
    rw[aH (by omega)]
   ·omega
  ·rfl
  ·intro i y again hy
   have hi:=(aaL.1 hy).1
   unfold kg
   dsimp only
   obtain⟨out,ok,g1,g2,g3⟩:=har h1 i hi
   rw[aC (by omega),g1,ace,aA (by omega) (by omega)]
   dsimp only
   unfold n2
   by_cases hon:gE (par l) i
   ·rw[g2.2 hon,acF hon,acE (by omega)];rfl
   ·have:ok=true:=by
     cases ok with
     | true=>rfl
     | false=>exact absurd (g2.1 rfl) hon
    rw[this,acE hon,acF rfl];rfl
  ·intro again
   unfold kg
   dsimp only
   rw[aH (by omega)]
  ·omega
 ·rfl
 ·intro i y again hy
  have hi:=(aaL.1 hy).1
  unfold jZ
  dsimp only
  obtain⟨q,hq1,hq2⟩:=hat y.2.1
  rw[aC (by omega),bD,hy,ace,hq1,ace,aA (by omega) (by omega)]
  dsimp only
  by_cases e1:y.2.1=[]
  ·have hn:n1 l y=0:=by unfold n1;rw[acE (fun h=>h.1 e1)]
   rw[hn,acF rfl,e1];rfl
  ·rw[show (!(y.2.1==[]))=true by cases hp:y.2.1<;>simp_all,acr]
   cases h2:(dh (fun x:ah=>x.1) y.2.1 l).isSome with
   | true=>
    have hn:n1 l y=0:=by unfold n1;rw[acE (fun h=>by rw[h2] at h;exact absurd h.2 (by simp))]
    rw[hn,acF rfl];rfl
   | false=>
    have hn:n1 l y=9:=by unfold n1;rw[acF ⟨e1,h2⟩]
    rw[hn,acE (by omega)];rfl
 ·intro again
  unfold jZ
  dsimp only
  rw[aH (by omega)]
 ·omega
theorem R5 (l:List ah) (hl:l.length≤500):B9 l=some (Ic l,()):=by
 unfold B9 Ic
 rw[fk (f:=vj) (fun i=>((l,l,(l.length:Int),(i:Int),()):vl)) l (fun _ p=>n1 l p) (l,()) ?_ ?_ ?_ _ ?_]
 ·refine DJ _ _ _ _ fun z1=> ?_
  have h1:=CE z1
  dsimp only
  rw[fk (f:=vk) (fun i=>((l,(l.length:Int),(i:Int),()):vm)) l (fun i _=>n2 l i) (l,()) ?_ ?_ ?_ _ ?_]
  ·refine DJ _ _ _ _ fun z2=> ?_
   have h2:=CF z2
   dsimp only
   rw[fk (f:=sR) (fun i=>((l,(l.length:Int),(i:Int),()):sS)) l (fun i _=>n3 l i) () ?_ ?_ ?_ _ ?_]
   ·exact WB _ _
   ·rfl
   ·intro i y again hy
    have hi:=(aaL.1 hy).1
    have hlt:=Ah h2 hi
    unfold sR
    dsimp only
    rw[aC (by omega),HA l hl h1 h2 i hi,ace,aA (n:=(i:Int)+1) (by omega) (by omega)]
    dsimp only
    rw[ZX,acq,fH,aaX,aA (by omega) (by omega)]
    unfold n3
    by_cases h5:5<(eL l i).length
    ·rw[aC (by omega),acF h5,acE (by omega)]
    ·rw[aH (by omega),acE h5,acF rfl];rfl
   ·intro again
    unfold sR
    dsimp only
    rw[aH (by omega)]
   ·omega
  ·rfl
  ·intro i y again hy
   have hi:=(aaL.1 hy).1
   unfold vk
   dsimp only
   obtain⟨b,g1,g2⟩:=R4 l hl h1 i hi
   rw[aC (by omega),g1,ace,aA (by omega) (by omega)]
   dsimp only
   unfold n2
   by_cases hon:gE (par l) i
   ·rw[g2.2 hon,acF hon,acE (by omega)];rfl
   ·have:b=false:=by
     cases b with
     | false=>rfl
     | true=>exact absurd (g2.1 rfl) hon
    rw[this,acE hon,acF rfl];rfl
  ·intro again
   unfold vk
   dsimp only
   rw[aH (by omega)]
  ·omega
 ·rfl
 ·intro i y again hy
  have hi:=(aaL.1 hy).1
  unfold vj
  dsimp only
  rw[aC (by omega),bD,hy,ace,lM l _ (by omega),ace,aA (by omega) (by omega)]
  dsimp only
  rw[XY]
  by_cases e1:y.2.1=[]
  ·have hn:n1 l y=0:=by unfold n1;rw[acE (fun h=>h.1 e1)]
   rw[hn,acF rfl,e1];rfl
  ·rw[show (!(y.2.1==[]))=true by cases hp:y.2.1<;>simp_all,acr]
   cases h2:(dh (fun x:ah=>x.1) y.2.1 l).isSome with
   | true=>
    have hn:n1 l y=0:=by unfold n1;rw[acE (fun h=>by rw[h2] at h;exact absurd h.2 (by simp))]
    rw[hn,acF rfl];rfl
   | false=>
    have hn:n1 l y=9:=by unfold n1;rw[acF ⟨e1,h2⟩]
    rw[hn,acE (by omega)];rfl
 ·intro again
  unfold vj
  dsimp only
  rw[aH (by omega)]
 ·omega
noncomputable def eH (a:aS):Int:=
 if eZ a.1=false then 5 else if eZ a.2.1=false then 5 else if ¬(1≤a.2.2.1∧a.2.2.1≤3652059) then 1
 else if 500<a.2.2.2.length then 2 else if cr (jY a.2.2.2) 0 a.2.2.2≠0 then cr (jY a.2.2.2) 0 a.2.2.2 else Ic a.2.2.2
theorem Gf {l:List ah} (h:cr (jY l) 0 l=0):Asc (·.1) l:=by
 have step:∀ i x y,l[i]? =some x→l[i+1]? =some y→Op.bytesLess x.1 y.1=true:=fun i x y hx hy=>by
  have:=gT h (i+1) y hy
  rw[ab9] at this
  unfold jY at this
  split at this
  ·omega
  ·split at this
   ·omega
   ·rename_i h2
    have h3:zT l (i+1) y=false:=by simpa using h2
    simp only[zT,hx,ZY,acn] at h3
    rcases Gi x.1 y.1 with h1 | h1 | h1
    ·exact h1
    ·exact absurd h1.symm h3.2
    ·rw[h3.1] at h1;cases h1
 intro i j x y hij hx hy
 induction j generalizing y with
 | zero=>omega
 | succ j ih=>
  rcases abX.1 hij with h1 | h1
  ·have hj:j<l.length:=by have:=(aaL.1 hy).1;omega
   have hz:l[j]? =some l[j]:=aF hj
   exact jw (ih _ h1 hz) (step j _ y hz hy)
  ·subst h1;exact step i x y hx hy
def FV (a:aS):Prop:=∀ p∈a.2.2.2,p.1.length≤9223372036854775807
theorem mO (a:aS) (hf:FV a):iq a=some (eH a,()):=by
 unfold iq eH
 simp only[yU,Rr,ace]
 cases eZ a.1 with
 | false=>rfl
 | true=>
 cases eZ a.2.1 with
 | false=>rfl
 | true=>
 simp only[ZX,acq,Bool.true_eq_false,acD]
 by_cases n_c1:¬(1≤a.2.2.1∧a.2.2.1≤3652059)
 ·rw[acu n_c1,acF n_c1];rfl
 have c1:=Decidable.of_not_not n_c1
 rw[acw c1,acE (by simpa using c1),ZX,acq]
 by_cases c2:500<a.2.2.2.length
 ·rw[aC (by omega),acF c2]
 rw[aH (by omega),acE c2]
 obtain⟨a1,a2,a3,l⟩:=a
 dsimp only at*
 rw[fk (f:=iH) (fun i=>(((l.length:Int),(i:Int),a1,a2,a3,l,()):iI)) l (jY l) (a1,a2,a3,l,()) ?_ ?_ ?_ _ ?_]
 ·refine DJ _ _ _ _ fun z=> ?_
  dsimp only
  rw[FP (a1,a2,a3,l) (by dsimp only;omega) (Gf z),ace]
 ·rfl
 ·intro i y again hy
  have hi:=(aaL.1 hy).1
  unfold iH
  dsimp only
  rw[aC (by omega),DA l i y hy (by omega) (hf y (abf hy)),ace,aA (by omega) (by omega)]
  dsimp only
  by_cases hz:jY l i y=0
  ·rw[hz];rfl
  ·rw[show (jY l i y != 0)=true by simpa using hz,acr,acE hz]
 ·intro again
  unfold iH
  dsimp only
  rw[aH (by omega)]
 ·omega
theorem yw (a:aS) (hf:FV a):lI a=some (eH a,()):=by
 unfold lI eH
 simp only[AW,Tx,ace]
 cases eZ a.1 with
 | false=>rfl
 | true=>
 cases eZ a.2.1 with
 | false=>rfl
 | true=>
 simp only[ZX,acq,Bool.true_eq_false,acD]
 by_cases n_c1:¬(1≤a.2.2.1∧a.2.2.1≤3652059)
 ·rw[acu n_c1,acF n_c1];rfl
 have c1:=Decidable.of_not_not n_c1
 rw[acw c1,acE (by simpa using c1),ZX,acq]
 by_cases c2:500<a.2.2.2.length
 ·rw[aC (by omega),acF c2]
 rw[aH (by omega),acE c2]
 obtain⟨a1,a2,a3,l⟩:=a
 dsimp only at*
 rw[fk (f:=lJ) (fun i=>((l,(l.length:Int),(i:Int),a1,a2,a3,l,()):lK)) l (jY l) (a1,a2,a3,l,()) ?_ ?_ ?_ _ ?_]
 ·refine DJ _ _ _ _ fun z=> ?_
  dsimp only
  rw[R5 l (by omega),ace]
 ·rfl
 ·intro i y again hy
  have hi:=(aaL.1 hy).1
  unfold lJ
  dsimp only
  rw[aC (by omega),bD,hy,ace,NN _ (hf y (abf hy)),ace]
  simp only[Fo,EO,ace,ZW]
  have hw:w64 ((i:Int)+1)=((i+1:Nat):Int):=by rw[aA (by omega) (by omega)];omega
  rw[hw]
  unfold jY
  have fin:(bif iV y.2.2.2 != 0 then some (Sum.inl (iV y.2.2.2,())) else again (l,(l.length:Int),((i+1:Nat):Int),a1,a2,a3,l,()))=if iV y.2.2.2=0 then again (l,(l.length:Int),((i+1:Nat):Int),a1,a2,a3,l,()) else some (Sum.inl (iV y.2.2.2,())):=by
   by_cases hz:iV y.2.2.2=0
   ·rw[hz];rfl
   ·rw[show (iV y.2.2.2 != 0)=true by simpa using hz,acr,acE hz]
  rw[fin]
  cases i with
  | zero=>
   simp only[zT]
   cases lbl y.1<;>cases qOk y.2.2.1 true<;>simp
  | succ i=>
   have hp:l[i]? =some (l[i]'(by omega)):=aF (by omega)
   have ep:zT l (i+1) y=(Op.bytesLess y.1 (l[i]'(by omega)).1||y.1==(l[i]'(by omega)).1):=by simp only[zT,hp]
   have hpos:decide (((i+1:Nat):Int)>0)=true:=by simp
   rw[B7 (by omega) (by omega),hp,ep,hpos]
   simp only[ace,acr]
   generalize (Op.bytesLess y.1 (l[i]'(by omega)).1||y.1==(l[i]'(by omega)).1)=p
   cases lbl y.1<;>cases qOk y.2.2.1 true<;>cases p<;>simp
 ·intro again
  unfold lJ
  dsimp only
  rw[aH (by omega)]
 ·omega
end Go.Md
namespace Go.Md
open Go.Dn
structure Kz (a:aS):Prop where
 len:a.2.2.2.length≤500
 asc:Asc (·.1) a.2.2.2
 n1:BP a.2.2.2
 nl:ou a.2.2.2
theorem p8 {a:aS} (h:eH a=0):Kz a:=by
 unfold eH at h
 split at h
 ·omega
 split at h
 ·omega
 split at h
 ·omega
 split at h
 ·omega
 split at h
 ·omega
 rename_i h1 h2
 have h3:cr (jY a.2.2.2) 0 a.2.2.2=0:=by omega
 unfold Ic at h
 split at h
 ·omega
 rename_i h4
 split at h
 ·omega
 rename_i h5
 exact⟨by omega,Gf h3,CE (by omega),CF (by omega)⟩
def lab (l:List ah) (i:Nat):List UInt8:=((l[i]?).map (·.1)).getD []
theorem Nj {l:List ah} {i:Nat} {p:ah} (h:l[i]? =some p):lab l i=p.1:=by unfold lab;rw[h];rfl
theorem V6 {l:List ah} (hs:Asc (·.1) l) {t:List UInt8} {T i:Nat} (hT:dh (·.1) t l=some T) (hi:i<l.length):lab l i=t↔i=T:=by
 have hp:l[i]? =some l[i]:=aF hi
 rw[Nj hp]
 constructor
 ·intro h
  have:=TS hs hp h
  rw[hT] at this;cases this;rfl
 ·rintro rfl
  obtain⟨x,h1,h2⟩:=ux hT
  rw[hp] at h1;cases h1;exact h2
theorem Vt {a:aS} (h:Kz a) {i:Nat} (hi:i<a.2.2.2.length):iO a (i:Int)=some (cI (eL a.2.2.2 i),true,()):=by
 obtain⟨out,ok,g1,g2,g3⟩:=AO a h.len h.asc h.n1 i hi
 have:ok=true:=by
  cases ok with
  | true=>rfl
  | false=>exact absurd (g2.1 rfl) (h.nl i hi)
 rw[g1,g3 h.nl,this]
theorem Hv {a:aS} (h:Kz a) {i T:Nat} (hi:i<a.2.2.2.length) {t:List UInt8} (hT:dh (·.1) t a.2.2.2=some T):pM a (i:Int) t=some (decide (T∈eL a.2.2.2 i),()):=by
 unfold pM kI nT
 rw[Vt h hi,ace]
 dsimp only
 have hlt:∀ x∈eL a.2.2.2 i,x<a.2.2.2.length:=fun x hx=>XJ hx
 have hlen:=Ah h.nl hi
 have hl:=h.len
 generalize eL a.2.2.2 i=L at*
 have loop:∀ f,L.length<f→∃ n:Int,iter f ((cI L,(a,t),((cI L).length:Int),(0:Int),()):eG) gD=(if T∈L then some (Sum.inl (n,())) else some (Sum.inr ()))∧0≤n:=by
  intro f hf
  refine bI (Inv:=fun c X=>X=((cI L,(a,t),((cI L).length:Int),(c:Int),()):eG)∧∀ j y,j<c→L[j]? =some y→y≠T) L.length
   (fun r=>∃ n:Int,r=(if T∈L then some (Sum.inl (n,())) else some (Sum.inr ()))∧0≤n) ?_ ?_ f 0 _ ⟨rfl,fun _ _ h=>absurd h (ab4 _)⟩ (by omega) (by omega)
  ·rintro c _ again hc ⟨rfl,hb⟩ ih
   unfold gD rK
   dsimp only
   have hy:L[c]? =some L[c]:=aF hc
   have hyl:=hlt _ (aaV hc)
   generalize L[c]=y at hy hyl
   have hy':(cI L)[c]? =some (y:Int):=by unfold cI;rw[aaM,hy];rfl
   have hp:a.2.2.2[y]? =some a.2.2.2[y]:=aF hyl
   rw[aC (by rw[fH];omega),bD,hy',ace,bD,hp,ace,ace]
   dsimp only
   have hle:=V6 h.asc hT hyl
   rw[Nj hp] at hle
   by_cases he:y=T
   ·rw[show (a.2.2.2[y].1==t)=true by simpa using hle.2 he,acr]
    exact⟨c,by rw[acF (he ▸ abf hy)],by omega⟩
   ·rw[show (a.2.2.2[y].1==t)=false by simpa using fun e=>he (hle.1 e),acq,aA (by omega) (by omega)]
    refine ih _ ⟨rfl,fun j z hj hz=> ?_⟩
    rcases abX.1 hj with h | h
    ·exact hb j z h hz
    ·subst h;rw[hy] at hz;cases hz;exact he
  ·rintro _ again ⟨rfl,hb⟩
   unfold gD
   dsimp only
   rw[aH (by rw[fH];omega)]
   refine⟨0, ?_,Z2 _⟩
   rw[acE]
   intro hm
   obtain⟨j,hj⟩:=abd.1 hm
   exact hb j T (aaL.1 hj).1 hj rfl
 obtain⟨n,h1,h2⟩:=loop (List.length (cI L)+(Int.natAbs ((List.length (cI L):Int))+(Int.natAbs (0:Int)+2))) (by rw[fH];omega)
 rw[h1]
 by_cases hm:T∈L
 ·rw[acF hm,lu,ace,ace,acw hm]
  congr 2
  exact acw h2
 ·rw[acE hm,aV,ace,ace,acu hm]
  rfl
def ins (l:List ah) (T n:Nat):List Nat:=(List.range n).filter (fun i=>decide (T∈i::eL l i))
theorem XX (l:List ah) (T n:Nat):(ins l T n).length≤n:=by
 unfold ins
 exact abQ (List.length_filter_le _ _) (by simp)
theorem W5 (l:List ah) (T n:Nat):ins l T (n+1)=if T∈n::eL l n then ins l T n++[n] else ins l T n:=by
 unfold ins
 rw[List.range_succ,aaz]
 by_cases h:T∈n::eL l n
 ·rw[acF h];simp only[aaA,List.filter_nil,acw h,acG]
 ·rw[acE h];simp only[aaA,List.filter_nil,acu h,ZQ,acD,aal]
theorem PJ (l:List ah) (hl:l.length≤500) (h1:BP l) (hn:ou l) (t:List UInt8) (ht:t≠[]) (T:Nat) (hT:dh (·.1) t l=some T):nQ l t=some (cI (ins l T l.length),()):=by
 unfold nQ
 have loop:∀ f,l.length<f→iter f ((l,t,([]:List Int),(l.length:Int),(0:Int),()):iQ) iP=some (Sum.inr (cI (ins l T l.length),())):=by
  intro f hf
  refine bI (Inv:=fun i X=>X=((l,t,cI (ins l T i),(l.length:Int),(i:Int),()):iQ)) l.length (fun r=>r=some (Sum.inr (cI (ins l T l.length),()))) ?_ ?_ f 0 _ rfl (by omega) (by omega)
  ·rintro i _ again hi rfl ih
   unfold iP
   dsimp only
   have hlt:=Ah hn hi
   have hil:=XX l T i
   rw[aC (by omega),HA l hl h1 hn i hi,ace,show (t==[])=false by cases t<;>simp_all,acq,lM l t (by omega),hT,ace]
   dsimp only[ixI]
   rw[mm _ _ (by rw[fH,aaX];omega),ace,aA (by omega) (by omega)]
   dsimp only
   have hs:=W5 l T i
   by_cases hm:T∈i::eL l i
   ·rw[acw (KN.2 hm),acr,aY (iE (by rw[fH];omega) (by rw[fH];omega))]
    refine ih _ ?_
    rw[hs,acF hm]
    simp[cI]
   ·rw[acu (fun h=>hm (KN.1 h)),acq]
    refine ih _ ?_
    rw[hs,acE hm]
    rfl
  ·rintro _ again rfl
   unfold iP
   dsimp only
   rw[aH (by omega)]
 rw[loop _ (by omega),aV]
end Go.Md
