/-
  Plain facts: parcels. No condition.
-/
import Derived.Test.YtfeonoiibclkiaaGreatDoorYp
import Derived.Test.YtfeonoiibclkiaaGreatDoorYr
import Derived.Test.YtfeonoiibclkiaaGreatDoorYn
set_option linter.all false
namespace Go.Md
open Go.Dn
theorem uF:∀ (n:Nat) (l:List Nat),l.Nodup→(∀ x∈l,x<n)→l.length≤n
 | 0,l,_,h=>by
  cases l with
  | nil=>simp
  | cons a r=>exact absurd (h a (by simp)) (UM _)
 | n+1,l,hd,h=>by
  by_cases hm:n∈l
  ·have h1:=uF n (l.erase n) (hd.erase n) (fun x hx=>by
    have:=(hd.mem_erase_iff).1 hx
    have:=h x this.2
    omega)
   rw[List.length_erase_of_mem hm] at h1
   omega
  ·have:=uF n l hd (fun x hx=>by
    have h2:=h x hx
    have:x≠n:=fun e=>hm (e ▸ hx)
    omega)
   omega
def itp (par:Nat→Option Nat):Nat→Nat→Option Nat
 | 0,i=>some i
 | j+1,i=>(par i).bind (itp par j)
theorem HG {par:Nat→Option Nat}:∀ {a b i k:Nat},itp par a i=some k→itp par (a+b) i=itp par b k
 | 0,b,i,k,h=>by simp only[itp,Option.some.injEq] at h;subst h;rw[UR]
 | a+1,b,i,k,h=>by
  simp only[itp] at h
  rw[show a+1+b=(a+b)+1 by omega]
  simp only[itp]
  cases hp:par i with
  | none=>rw[hp] at h;cases h
  | some j=>rw[hp] at h;exact HG (a:=a) (by simpa using h)
def mE (par:Nat→Option Nat) (i:Nat):Prop:=∃ j,itp par (j+1) i=some i
def qI (par:Nat→Option Nat) (i k d:Nat):Prop:=itp par (d+1) k=some i∧∀ e,e<d→itp par (e+1) k≠some i
theorem qI.uniq {par:Nat→Option Nat} {i k d e:Nat} (h:qI par i k d) (h':qI par i k e):d=e:=by
 rcases UH d e with h1 | h1 | h1
 ·exact absurd h.1 (h'.2 d h1)
 ·exact h1
 ·exact absurd h'.1 (h.2 e h1)
theorem qI.step {par:Nat→Option Nat} {i k d:Nat} (h:qI par i k d):∃ k',par k=some k'∧((k'=i∧d=0)∨(k'≠i∧∃ e,d=e+1∧qI par i k' e)):=by
 obtain⟨h1,h2⟩:=h
 simp only[itp] at h1
 cases hp:par k with
 | none=>rw[hp] at h1;cases h1
 | some k'=>
  rw[hp] at h1
  refine⟨k',rfl, ?_⟩
  cases d with
  | zero=>simp only[UT,itp,Option.some.injEq] at h1;exact .inl ⟨h1,rfl⟩
  | succ e=>
   right
   refine⟨fun e1=> ?_,e,rfl,by simpa using h1,fun f hf hx=> ?_⟩
   ·refine h2 0 (by omega) ?_
    simp only[itp,hp,UT,e1]
   ·refine h2 (f+1) (by omega) ?_
    rw[show f+1+1=(f+1)+1 from rfl]
    show (par k).bind (itp par (f+1))=some i
    rw[hp];exact hx
theorem mE.RY {par:Nat→Option Nat} {i:Nat} (h:mE par i):∃ d,qI par i i d:=by
 obtain⟨j,hj⟩:=h
 induction j using Nat.strongRecOn with
 | _ j ih=>
  by_cases hx:∃ e,e<j∧itp par (e+1) i=some i
  ·obtain⟨e,h1,h2⟩:=hx;exact ih e h1 h2
  ·exact⟨j,hj,fun e he h2=>hx ⟨e,he,h2⟩⟩
theorem qI.list {par:Nat→Option Nat} {i n:Nat} (hn:∀ k k',par k=some k'→k'<n):∀ {d k:Nat},k<n→qI par i k d→∃ l:List Nat,l.length=d+1∧l.Nodup∧(∀ x∈l,x<n)∧∀ x∈l,∃ e,e≤d∧qI par i x e
 | 0,k,hk,h=>⟨[k],rfl,by simp,by simpa using hk,fun x hx=>by simp at hx;subst hx;exact⟨0,Uy _,h⟩⟩
 | d+1,k,hk,h=>by
  obtain⟨k',h1,h2⟩:=h.step
  rcases h2 with ⟨_,h2⟩ | ⟨_,e,h2,h3⟩
  ·omega
  ·have:e=d:=by omega
   subst this
   obtain⟨l,l1,l2,l3,l4⟩:=qI.list hn (hn _ _ h1) h3
   refine⟨k::l,by simp[l1],Ud.2 ⟨fun hm=> ?_,l2⟩,fun x hx=> ?_,fun x hx=> ?_⟩
   ·obtain⟨f,f1,f2⟩:=l4 k hm
    have:=f2.uniq h
    omega
   ·rcases TX.1 hx with rfl | hx
    ·exact hk
    ·exact l3 x hx
   ·rcases TX.1 hx with rfl | hx
    ·exact⟨e+1,Uy _,h⟩
    ·obtain⟨f,f1,f2⟩:=l4 x hx;exact⟨f,by omega,f2⟩
theorem qI.le {par:Nat→Option Nat} {i n d k:Nat} (hn:∀ k k',par k=some k'→k'<n) (hk:k<n) (h:qI par i k d):d+1≤n:=by
 obtain⟨l,l1,l2,l3,_⟩:=h.list hn hk
 have:=uF n l l2 l3
 omega
def anc (par:Nat→Option Nat):Nat→Nat→List Nat
 | 0,_=>[]
 | f+1,i=>match par i with
  | none=>[]
  | some k=>k::anc par f k
theorem sF {par:Nat→Option Nat} {f i k:Nat} (h:par i=some k):anc par (f+1) i=k::anc par f k:=by simp[anc,h]
theorem En {par:Nat→Option Nat} {i:Nat} (h:par i=none):∀ f,anc par f i=[]
 | 0=>rfl
 | f+1=>by simp[anc,h]
theorem MA {par:Nat→Option Nat}:∀ {f i x:Nat},x∈anc par f i→∃ j,j<f∧itp par (j+1) i=some x
 | 0,_,_,h=>by simp[anc] at h
 | f+1,i,x,h=>by
  cases hp:par i with
  | none=>simp[anc,hp] at h
  | some k=>
   rw[sF hp] at h
   rcases TX.1 h with rfl | h
   ·exact⟨0,by omega,by simp[itp,hp]⟩
   ·obtain⟨j,h1,h2⟩:=MA h
    exact⟨j+1,by omega,by show (par i).bind (itp par (j+1))=some x;rw[hp];exact h2⟩
theorem J8 {par:Nat→Option Nat} {n:Nat} (hn:∀ k k',par k=some k'→k'<n):∀ {f i x:Nat},x∈anc par f i→x<n
 | 0,_,_,h=>by simp[anc] at h
 | f+1,i,x,h=>by
  cases hp:par i with
  | none=>simp[anc,hp] at h
  | some k=>
   rw[sF hp] at h
   rcases TX.1 h with rfl | h
   ·exact hn _ _ hp
   ·exact J8 hn h
theorem BM {par:Nat→Option Nat} {n:Nat} (hn:∀ k k',par k=some k'→k'<n) (hl:∀ k,k<n→¬ mE par k):∀ {f i:Nat},i<n→(i::anc par f i).Nodup
 | 0,i,_=>by simp[anc]
 | f+1,i,hi=>by
  rw[Ud]
  refine⟨fun hm=> ?_, ?_⟩
  ·obtain⟨j,_,hj⟩:=MA hm
   exact hl i hi ⟨j,hj⟩
  ·cases hp:par i with
   | none=>simp[anc,hp]
   | some k=>
    rw[sF hp]
    exact BM hn hl (hn _ _ hp)
theorem Qv {par:Nat→Option Nat} {n:Nat} (hn:∀ k k',par k=some k'→k'<n) (hl:∀ k,k<n→¬ mE par k) {f i:Nat} (hi:i<n):(anc par f i).length<n:=by
 have:=uF n (i::anc par f i) (BM hn hl hi) (fun x hx=>by
  rcases TX.1 hx with rfl | hx
  ·exact hi
  ·exact J8 hn hx)
 simp at this;omega
theorem Iy {par:Nat→Option Nat}:∀ {f g i:Nat},(anc par f i).length<f→f≤g→anc par g i=anc par f i
 | 0,_,_,h,_=>by simp[anc] at h
 | f+1,g,i,h,hg=>by
  obtain⟨g,rfl⟩:∃ g',g=g'+1:=⟨g - 1,by omega⟩
  cases hp:par i with
  | none=>rw[En hp,En hp]
  | some k=>
   rw[sF hp] at h ⊢
   rw[sF hp]
   rw[Iy (f:=f) (by simpa using h) (by omega)]
end Go.Md
namespace Go.Md
open Go.Dn
theorem pY (l:List Int) (x:Int) (hl:l.length<1000000000):gf l x=some (decide (x∈l),()):=by
 unfold gf qT
 have loop:∀ f,l.length<f→∃ n:Int,iter f ((l,x,(l.length:Int),(0:Int),()):gh) jm=(if x∈l then some (Sum.inl (n,())) else some (Sum.inr ()))∧0≤n:=by
  intro f hf
  refine bM (Inv:=fun i X=>X=((l,x,(l.length:Int),(i:Int),()):gh)∧∀ j y,j<i→l[j]? =some y→y≠x) l.length
   (fun r=>∃ n:Int,r=(if x∈l then some (Sum.inl (n,())) else some (Sum.inr ()))∧0≤n) ?_ ?_ f 0 _ ⟨rfl,fun _ _ h=>absurd h (UM _)⟩ (by omega) (by omega)
  ·rintro i _ again hi ⟨rfl,hb⟩ ih
   unfold jm
   dsimp only
   have hy:l[i]? =some l[i]:=au hi
   generalize l[i]=y at hy
   rw[aK (by omega),bD,hy,UT]
   by_cases he:x=y
   ·rw[show (x==y)=true by simpa using he,U5]
    exact⟨i,by rw[Vg (he ▸ T6 hy)],by omega⟩
   ·rw[show (x==y)=false by simpa using he,U4,aB (by omega) (by omega)]
    refine ih _ ⟨rfl,fun j z hj hz=> ?_⟩
    rcases UF.1 hj with h | h
    ·exact hb j z h hz
    ·subst h;rw[hy] at hz;cases hz;exact fun e=>he e.symm
  ·rintro _ again ⟨rfl,hb⟩
   unfold jm
   dsimp only
   rw[aT (by omega)]
   refine⟨0, ?_,SM _⟩
   rw[Vf]
   intro hm
   obtain⟨j,hj⟩:=T3.1 hm
   exact hb j x (TC.1 hj).1 hj rfl
 obtain⟨n,h1,h2⟩:=loop (List.length l+(Int.natAbs x+(Int.natAbs ((List.length l:Int))+(Int.natAbs (0:Int)+2)))) (by omega)
 rw[h1]
 by_cases hm:x∈l
 ·rw[Vg hm,iI,UT,U8 hm]
  congr 2
  exact U8 h2
 ·rw[Vf hm,aS,UT,U7 hm]
  rfl
def wL (c:UInt8):Bool:=decide (48≤c.toNat)&&decide (c.toNat≤57)
theorem Kz {c:UInt8}:(decide ((c.toNat:Int)<48)=false∧decide ((c.toNat:Int)>57)=false)↔wL c=true:=by
 simp only[wL,Sx,U9,decide_eq_false_iff_not]
 omega
theorem Gi (s:List UInt8) (hs:s.length≤9223372036854775807):nR s=some (decide (s≠[])&&s.all wL,()):=by
 unfold nR yK
 by_cases h0:s=[]
 ·subst h0;rfl
 ·rw[show (!(s==[]))=true by cases s<;>simp_all,U5,U8 h0,SK]
  have loop:∀ f,s.length<f→iter f ((s,(48:Int),(57:Int),(s.length:Int),(0:Int),()):kS) oG=(if s.all wL=true then some (Sum.inr ()) else some (Sum.inl (false,()))):=by
   intro f hf
   refine bM (Inv:=fun i X=>X=((s,(48:Int),(57:Int),(s.length:Int),(i:Int),()):kS)∧(s.take i).all wL=true) s.length
    (fun r=>r=(if s.all wL=true then some (Sum.inr ()) else some (Sum.inl (false,())))) ?_ ?_ f 0 _ ⟨rfl,by simp⟩ (by omega) (by omega)
   ·rintro i _ again hi ⟨rfl,hb⟩ ih
    unfold oG
    dsimp only
    have hy:s[i]? =some s[i]:=au hi
    have hym:s[i]∈s:=TL hi
    generalize s[i]=y at hy hym
    rw[aK (by omega),Lt hy,UT,UT,aB (by omega) (by omega)]
    cases hd:wL y with
    | true=>
     obtain⟨h1,h2⟩:=Kz.2 hd
     rw[h1,h2,U4,U4]
     refine ih _ ⟨rfl, ?_⟩
     rw[jG hy]
     simp[hb,hd]
    | false=>
     have hall:s.all wL=false:=by
      rw[List.all_eq_false]
      exact⟨y,hym,by simp[hd]⟩
     rw[hall]
     cases h1:decide ((y.toNat:Int)<48) with
     | true=>rfl
     | false=>
      cases h2:decide ((y.toNat:Int)>57) with
      | true=>rfl
      | false=>have:=Kz.1 ⟨h1,h2⟩;rw[hd] at this;cases this
   ·rintro _ again ⟨rfl,hb⟩
    unfold oG
    dsimp only
    rw[aT (by omega)]
    rw[Um (Uy _)] at hb
    rw[Vg hb]
  rw[loop _ (by omega)]
  cases s.all wL<;>rfl
theorem Mw (s:List UInt8) (hs:s.length≤100):∃ b,CJ s=some (b,()):=by
 unfold CJ
 have loop:∀ f,s.length<f→∃ n:Int,iter f ((s,(0:Int),(s.length:Int),(0:Int),()):nY) se=some (Sum.inr (n,())):=by
  intro f hf
  refine bM (Inv:=fun i X=>∃ n:Int,X=((s,n,(s.length:Int),(i:Int),()):nY)) s.length
   (fun r=>∃ n:Int,r=some (Sum.inr (n,()))) ?_ ?_ f 0 _ ⟨0,rfl⟩ (by omega) (by omega)
  ·rintro i _ again hi ⟨n,rfl⟩ ih
   unfold se
   dsimp only
   have e:w64 (w64 ((s.length:Int) - 1) - (i:Int))=((s.length - 1 - i:Nat):Int):=by
    rw[aB (n:=(s.length:Int) - 1) (by omega) (by omega),aB (by omega) (by omega)];omega
   have hy:s[s.length - 1 - i]? =some (s[s.length - 1 - i]'(by omega)):=au (by omega)
   rw[aK (by omega),e,Lt hy,UT,aB (n:=(i:Int)+1) (by omega) (by omega)]
   cases (Int.tmod (i:Int) 2==1) with
   | true=>rw[U5];exact ih _ ⟨_,rfl⟩
   | false=>rw[U4];exact ih _ ⟨_,rfl⟩
  ·rintro _ again ⟨n,rfl⟩
   unfold se
   dsimp only
   rw[aT (by omega)]
   exact⟨n,rfl⟩
 obtain⟨n,h⟩:=loop (List.length s+(Int.natAbs (0:Int)+(Int.natAbs ((List.length s:Int))+(Int.natAbs (0:Int)+2)))) (by omega)
 rw[h]
 exact⟨_,rfl⟩
def lbl (s:List UInt8):Bool:=decide (s.length=18)&&(s.all wL&&((CJ s).map (·.1)).getD false)
theorem D1 (s:List UInt8) (hs:s.length≤9223372036854775807):oO s=some (lbl s,()):=by
 unfold oO rF qb nA sE
 rw[oH,UT,UT]
 dsimp only
 rw[show (!(!(decide ((3:Int)<1∨(5:Int)<3))))=false by decide,U4,show ((3:Int)==4)=false from rfl,show ((3:Int)==5)=false from rfl,show ((3:Int)==1)=false from rfl,show ((3:Int)==2)=false from rfl]
 simp only[U4,UT]
 rw[pY _ _ (by decide),UT,Gi s hs]
 unfold lbl
 by_cases hl:s.length=18
 ·obtain⟨b,hb⟩:=Mw s (by omega)
  have hb2:wB s=some (b,()):=hb
  have hne:s≠[]:=fun e=>by subst e;cases hl
  rw[U8 (show (s.length:Int)∈[18] by simp;omega),U5,UT,U8 hne,SK,U8 hl,SK,hb2,hb]
  cases s.all wL<;>simp
 ·rw[U7 (show ¬ (s.length:Int)∈[18] by simp;omega),U7 hl]
  rfl
def qOk (d:ak) (zero:Bool):Bool:=inR d 0 1000000000 3&&(!(d.1==0)||zero)
theorem Gq {d:ak} (hd:cN d):rS d 3 1000000000=some (inR d 0 1000000000 3,()):=by
 unfold rS
 have hp:=CI d.2.toNat
 have hp2:(10:Int) ^ d.2.toNat≤1000000000:=by
  have:=UP (n:=10) (by omega) (show d.2.toNat≤9 by have:=hd.2.2;omega)
  have h2:=Int.ofNat_le.2 this
  simpa using h2
 rw[HV d.2 hd.2.1 (by have:=hd.2.2;omega)]
 have e:inR d 0 1000000000 3=(decide (d.2≤3)&&(decide (d.1≥0)&&decide (d.1≤1000000000*10 ^ d.2.toNat))):=by
  unfold inR
  rw[← Bool.decide_and, ← Bool.decide_and,U6,Int.zero_mul]
  constructor
  ·rintro⟨_,h2,h3,h4⟩;exact⟨h2,h3,h4⟩
  ·rintro⟨h2,h3,h4⟩;exact⟨hd,h2,h3,h4⟩
 rw[e,UT,aB (n:=1000000000*10 ^ d.2.toNat) (by omega) (by omega)]
 cases decide (d.2≤3)<;>cases decide (d.1≥0)<;>cases decide (d.1≤1000000000*10 ^ d.2.toNat)<;>rfl
theorem pT (d:ak) (z:Bool):cu d z=some (if qOk d z=true then 0 else 1,()):=by
 unfold cu qOk
 rw[xP,UT]
 by_cases hd:cN d
 ·rw[Gq hd,Vg hd]
  dsimp only
  rw[show ((0:Int) != 0)=false from rfl,U4,UT]
  cases inR d 0 1000000000 3<;>cases (d.1==0)<;>cases z<;>rfl
 ·have:inR d 0 1000000000 3=false:=by unfold inR;simp[hd]
  simp[hd,this]
end Go.Md
namespace Go.Md
open Go.Dn
theorem GW (l:List aa) (t:List UInt8) (hl:l.length<1000000000) (hs:Asc (·.1) l):
 ∃ i:Nat,b8 l t ()=some ((i:Int),(dF (·.1) t l).isSome,())∧∀ k,dF (·.1) t l=some k→i=k:=by
 unfold b8
 have loop:∀ f,l.length<f→∃ i:Nat,iter f ((l,t,(),(l.length:Int),(0:Int),(l.length:Int),()):bH) cS=some (Sum.inr (l,t,(),(l.length:Int),(i:Int),()))∧i≤l.length∧(∀ k x,l[k]? =some x→k<i→Op.bytesLess x.1 t=true)∧∀ k x,l[k]? =some x→i≤k→Op.bytesLess x.1 t=false:=by
  intro f hf
  refine uz (Inv:=fun X=>∃ i j:Nat,X=((l,t,(),(l.length:Int),(i:Int),(j:Int),()):bH)∧i≤j∧j≤l.length∧(∀ k x,l[k]? =some x→k<i→Op.bytesLess x.1 t=true)∧∀ k x,l[k]? =some x→j≤k→Op.bytesLess x.1 t=false)
   (fun X=>(X.2.2.2.2.2.1 - X.2.2.2.2.1).toNat)
   (fun _ r=>∃ i:Nat,r=some (Sum.inr (l,t,(),(l.length:Int),(i:Int),()))∧i≤l.length∧(∀ k x,l[k]? =some x→k<i→Op.bytesLess x.1 t=true)∧∀ k x,l[k]? =some x→i≤k→Op.bytesLess x.1 t=false) ?_ f _ ⟨0,l.length,rfl,by omega,by omega,fun _ _ _ h=>absurd h (UM _),fun k x hk hle=>by have:=(TC.1 hk).1;omega⟩ (by dsimp only;omega)
  rintro _ again ⟨i,j,rfl,hij,hj,h1,h2⟩ ih
  dsimp only at ih
  unfold cS
  dsimp only
  by_cases hlt:i<j
  ·rw[aK (by omega)]
   have em:w64 (Int.fdiv (bI (w64 ((i:Int)+(j:Int)))) (2 ^ 1))=(((i+j) / 2:Nat):Int):=by
    rw[aB (n:=(i:Int)+(j:Int)) (by omega) (by omega),cA (by omega) (by omega),SL _ (by omega),aB (by omega) (by omega)]
    omega
   rw[em]
   have hm:(i+j) / 2<l.length:=by omega
   have hy:l[(i+j) / 2]? =some l[(i+j) / 2]:=au hm
   have hmi:i≤(i+j) / 2∧(i+j) / 2<j:=by omega
   generalize (i+j) / 2=m at*
   generalize l[m]=y at hy
   rw[bD,hy,UT]
   show ∃ i,Option.bind (Option.bind (some (Lib.compareBytes y.1 t,())) fun r1=>some (r1.1,())) _=_∧_
   rw[UT,UT]
   dsimp only
   by_cases hc:Lib.compareBytes y.1 t<0
   ·rw[aK hc,aB (by omega) (by omega)]
    refine ih _ ⟨m+1,j,rfl,by omega,hj,fun k x hk hkm=> ?_,h2⟩ (by dsimp only;omega)
    rcases UF.1 hkm with h | h
    ·have:=hs k m x y h hk hy
     exact mT this (sI.1 hc)
    ·subst h;rw[hy] at hk;cases hk;exact sI.1 hc
   ·rw[aT hc]
    refine ih _ ⟨i,m,rfl,by omega,by omega,h1,fun k x hk hkm=> ?_⟩ (by dsimp only;omega)
    have hc':Op.bytesLess y.1 t=false:=by
     cases h:Op.bytesLess y.1 t with
     | false=>rfl
     | true=>exact absurd (sI.2 h) hc
    rcases Nat.lt_or_eq_of_le hkm with h | h
    ·cases hx:Op.bytesLess x.1 t with
     | false=>rfl
     | true=>rw[mT (hs m k y x h hy hk) hx] at hc';cases hc'
    ·subst h;rw[hy] at hk;cases hk;exact hc'
  ·rw[aT (by omega)]
   have:i=j:=by omega
   subst this
   exact⟨i,rfl,hj,h1,h2⟩
 obtain⟨i,h1,h2,h3,h4⟩:=loop (List.length l+(List.length t+(Int.natAbs ((List.length l:Int))+(Int.natAbs (0:Int)+(Int.natAbs ((List.length l:Int))+2))))) (by omega)
 refine⟨i, ?_,fun k hk=> ?_⟩
 ·rw[h1,aS]
  dsimp only
  by_cases hi:i<l.length
  ·have hy:l[i]? =some l[i]:=au hi
   generalize l[i]=y at hy
   rw[aK (by omega),bD,hy,UT]
   show Option.bind (Option.bind (some (Lib.compareBytes y.1 t,())) fun r1=>some (r1.1,())) _=_
   rw[UT,UT]
   congr 3
   by_cases he:y.1=t
   ·rw[vZ hs hy he,um.2 he];rfl
   ·have hne:¬ Lib.compareBytes y.1 t=0:=fun h=>he (um.1 h)
    rw[show (Lib.compareBytes y.1 t==0)=false by simpa using hne]
    cases hx:dF (·.1) t l with
    | none=>rfl
    | some k=>
     exfalso
     obtain⟨x,k1,k2⟩:=nQ hx
     rcases UH k i with h | h | h
     ·have:=h3 k x k1 h;rw[k2,fm] at this;cases this
     ·subst h;rw[hy] at k1;cases k1;exact he k2
     ·have:=hs i k y x h hy k1
      dsimp only at this
      rw[k2,h4 i y hy (Uy _)] at this;cases this
  ·rw[aT (by omega)]
   congr 3
   cases hx:dF (·.1) t l with
   | none=>rfl
   | some k=>
    exfalso
    obtain⟨x,k1,k2⟩:=nQ hx
    have:=h3 k x k1 (by have:=(TC.1 k1).1;omega)
    rw[k2,fm] at this;cases this
 ·obtain⟨x,k1,k2⟩:=nQ hk
  rcases UH k i with h | h | h
  ·have:=h3 k x k1 h;rw[k2,fm] at this;cases this
  ·exact h.symm
  ·have hy:l[i]? =some (l[i]'(by have:=(TC.1 k1).1;omega)):=au _
   have:=hs i k _ x h hy k1
   dsimp only at this
   rw[k2,h4 i _ hy (Uy _)] at this;cases this
theorem gH (a:aC) (t:List UInt8) (hl:a.2.2.2.length<1000000000) (hs:Asc (·.1) a.2.2.2):
 ∃ i:Nat,fE a t=some ((i:Int),(dF (·.1) t a.2.2.2).isSome,())∧∀ k,dF (·.1) t a.2.2.2=some k→i=k:=by
 obtain⟨i,h1,h2⟩:=GW a.2.2.2 t hl hs
 exact⟨i,by unfold fE;rw[h1,UT],h2⟩
def Kg (a b:aX):Int:=dR (fun _ y=>y) 0 [Lib.compareBytes a.1 b.1,Lib.compareBytes a.2.1 b.2.1,Lib.compareBytes a.2.2.1 b.2.2.1]
theorem Oq (l:List Int) (hl:l.length<1000):vB l=some (dR (fun _ y=>y) 0 l,()):=by
 unfold vB
 rw[oF (f:=qh) (fun i=>(((0:Int),l,(l.length:Int),(i:Int),()):qi)) l (fun _ y=>y) (0,()) ?_ ?_ ?_ _ ?_]
 ·exact (RB _ _ _ 0 rfl).trans (by
   by_cases h:dR (fun _ y=>y) 0 l=0
   ·rw[Vf (by simpa using h),h]
   ·rw[Vg h])
 ·rfl
 ·intro i y again hy
  have hi:=(TC.1 hy).1
  unfold qh
  dsimp only
  rw[aK (by omega),bD,hy,UT,aB (by omega) (by omega)]
  by_cases h:y=0
  ·subst h;rfl
  ·rw[show (y != 0)=true by simpa using h,U5,Vf h]
 ·intro again
  unfold qh
  dsimp only
  rw[aT (by omega)]
 ·omega
theorem vO (a b:aX):ez a b=some (Kg a b,()):=by
 unfold ez strings_Compare Kg
 simp only[UT]
 rw[Oq _ (by simp),UT]
def JY (l:List aX) (i:Nat) (y:aX):Bool:=match i with
 | 0=>false
 | i+1=>match l[i]? with
  | some p=>decide (Kg p y≥0)
  | none=>false
def FG (l:List aX) (i:Nat) (c:aX):Int:=
 if nP c.1=false then 5 else if nP c.2.1=false then 5 else if (!(c.2.2.1==[])&& !nP c.2.2.1)=true then 5
 else if JY l i c=true then 8 else if qOk c.2.2.2 false=true then 0 else 1
def wF (l:List aX):Int:=if 100<l.length then 2 else dR (FG l) 0 l
theorem I4 {α:Type} {l:List α} {i:Nat} (hi:i<l.length) (hl:l.length<1000000000):idx l (w64 (((i+1:Nat):Int) - 1))=l[i]? :=by
 rw[aB (by omega) (by omega),show ((i+1:Nat):Int) - 1=((i:Nat):Int) by omega,bD]
theorem x7 (l:List aX):fD l=some (wF l,()):=by
 unfold fD wF
 by_cases hb:100<l.length
 ·rw[aK (by omega),Vg hb]
 ·rw[aT (by omega),Vf hb]
  rw[oF (f:=fU) (fun i=>((l,l,(l.length:Int),(i:Int),()):fV)) l (FG l) () ?_ ?_ ?_ _ ?_]
  ·exact Qu _ _
  ·rfl
  ·intro i y again hy
   have hi:=(TC.1 hy).1
   unfold fU
   dsimp only
   rw[aK (by omega),bD,hy,UT]
   simp only[Bc,UT,pT,vO]
   have hw:w64 ((i:Int)+1)=((i+1:Nat):Int):=by rw[aB (by omega) (by omega)];omega
   rw[hw]
   unfold FG
   generalize qOk y.2.2.2 false=q
   cases i with
   | zero=>
    simp only[JY]
    cases nP y.1<;>cases nP y.2.1<;>cases (y.2.2.1==[])<;>cases nP y.2.2.1<;>cases q<;>simp
   | succ i=>
    have hp:l[i]? =some (l[i]'(by omega)):=au (by omega)
    have ep:JY l (i+1) y=decide (Kg (l[i]'(by omega)) y≥0):=by simp only[JY,hp]
    have hpos:decide (((i+1:Nat):Int)>0)=true:=by simp
    rw[I4 (by omega) (by omega),hp,ep,hpos]
    simp only[UT,U5]
    generalize decide (Kg (l[i]'(by omega)) y≥0)=p
    cases nP y.1<;>cases nP y.2.1<;>cases (y.2.2.1==[])<;>cases nP y.2.2.1<;>cases q<;>cases p<;>simp
  ·intro again
   unfold fU
   dsimp only
   rw[aT (by omega)]
  ·omega
def Dh (l:List aa) (i:Nat) (y:aa):Bool:=match i with
 | 0=>false
 | i+1=>match l[i]? with
  | some p=>Op.bytesLess y.1 p.1||y.1==p.1
  | none=>false
def kN (l:List aa) (i:Nat) (p:aa):Int:=
 if lbl p.1=false then 3 else if Dh l i p=true then 8 else if qOk p.2.2.1 true=false then 1 else wF p.2.2.2
theorem zG (l:List aa) (i:Nat) (y:aa) (hy:l[i]? =some y) (hl:l.length<1000000000) (hs:y.1.length≤9223372036854775807):jX l (i:Int)=some (kN l i y,()):=by
 have hi:=(TC.1 hy).1
 unfold jX kN
 rw[bD,hy,UT,D1 _ hs]
 simp only[UT,pT,x7]
 cases i with
 | zero=>
  simp only[Dh]
  cases lbl y.1<;>cases qOk y.2.2.1 true<;>simp
 | succ i=>
  have hp:l[i]? =some (l[i]'(by omega)):=au (by omega)
  have ep:Dh l (i+1) y=(Op.bytesLess y.1 (l[i]'(by omega)).1||y.1==(l[i]'(by omega)).1):=by simp only[Dh,hp]
  have hpos:decide (((i+1:Nat):Int)>0)=true:=by simp
  rw[I4 (by omega) hl,hp,ep,hpos]
  simp only[UT,U5]
  generalize (Op.bytesLess y.1 (l[i]'(by omega)).1||y.1==(l[i]'(by omega)).1)=p
  cases lbl y.1<;>cases qOk y.2.2.1 true<;>cases p<;>simp
end Go.Md
namespace Go.Md
open Go.Dn
def par (l:List aa) (k:Nat):Option Nat:=match l[k]? with
 | some p=>if p.2.1=[] then none else dF (·.1) p.2.1 l
 | none=>none
theorem Gu {l:List aa} {k k':Nat} (h:par l k=some k'):k'<l.length:=by
 unfold par at h
 split at h
 ·split at h
  ·cases h
  ·obtain⟨x,hx,_⟩:=nQ h
   exact (TC.1 hx).1
 ·cases h
def JN (l:List aa):Prop:=∀ p∈l,p.2.1=[]∨(dF (·.1) p.2.1 l).isSome=true
theorem MX {l:List aa} {k:Nat} {p:aa} (h1:JN l) (hp:l[k]? =some p):(p.2.1=[]∧par l k=none)∨(p.2.1≠[]∧∃ k',par l k=some k'∧dF (·.1) p.2.1 l=some k'):=by
 unfold par
 rw[hp]
 dsimp only
 by_cases h:p.2.1=[]
 ·exact .inl ⟨h,by rw[Vg h]⟩
 ·right
  rw[Vf h]
  rcases h1 p (T6 hp) with h2 | h2
  ·exact absurd h2 h
  ·obtain⟨k',hk'⟩:=UX.1 h2
   exact⟨h,k',hk',hk'⟩
def pL (l:List aa):Prop:=∀ k,k<l.length→¬ mE (par l) k
def cq (l:List aa) (i:Nat):List Nat:=anc (par l) l.length i
theorem zZ {l:List aa} (h:pL l) {i:Nat} (hi:i<l.length):(cq l i).length<l.length:=Qv (fun _ _=>Gu) h hi
theorem ya {l:List aa} (h:pL l) {i k:Nat} (hi:i<l.length) (hp:par l i=some k):cq l i=k::cq l k:=by
 have h1:=zZ h hi
 unfold cq at*
 rw[← Iy h1 (show l.length≤l.length+1 by omega),sF hp]
theorem Ix {l:List aa} {i:Nat} (hp:par l i=none):cq l i=[]:=En hp _
theorem C2 {l:List aa} {i x:Nat} (h:x∈cq l i):x<l.length:=J8 (fun _ _=>Gu) h
theorem Nk {l:List aa} (h:pL l) {i:Nat} (hi:i<l.length):(i::cq l i).Nodup:=BM (fun _ _=>Gu) h hi
def cI (l:List Nat):List Int:=l.map (fun n:Nat=>(n:Int))
theorem Oj {l:List Nat} {x:Nat}:(x:Int)∈cI l↔x∈l:=by
 unfold cI
 rw[T4]
 constructor
 ·rintro⟨a,h1,h2⟩;have:a=x:=by omega
  exact this ▸ h1
 ·intro h;exact⟨x,h,rfl⟩
theorem nM (l:List Nat):(cI l).length=l.length:=by simp[cI]
theorem w8 (a:aC) (hl:a.2.2.2.length≤500) (hs:Asc (·.1) a.2.2.2) (h1:JN a.2.2.2) (i:Nat) (hi:i<a.2.2.2.length):
 ∃ (out:List Nat) (ok:Bool),fN a (i:Int)=some (cI out,ok,())∧(ok=false↔mE (par a.2.2.2) i)∧(pL a.2.2.2→out=cq a.2.2.2 i):=by
 unfold fN
 have hat:=fun t=>gH a t (by omega) hs
 obtain⟨a1,a2,a3,l⟩:=a
 dsimp only at*
 have loop:∀ f,l.length+1<f→∃ (out:List Nat) (ok:Bool),(iter f (((i:Int),([]:List Int),(i:Int),a1,a2,a3,l,()):gm) l9=(if ok=true then (some (Sum.inr (cI out,())):Option eU) else some (Sum.inl (cI out,false,())))∨(ok=true∧iter f (((i:Int),([]:List Int),(i:Int),a1,a2,a3,l,()):gm) l9=(some (Sum.inl (cI out,true,())):Option eU)))∧(ok=false↔mE (par l) i)∧(pL l→out=cq l i):=by
  intro f hf
  refine uz (Inv:=fun X=>∃ (out:List Nat) (k:Nat),X=(((i:Int),cI out,(k:Int),a1,a2,a3,l,()):gm)∧k<l.length∧out.Nodup∧(∀ x∈out,x<l.length)∧(∃ j,itp (par l) j i=some k)∧(mE (par l) i→∃ d,qI (par l) i k d∧∀ x∈out,∃ e,d≤e∧qI (par l) i x e)∧(pL l→out++cq l k=cq l i))
   (fun X=>l.length+1 - X.2.1.length)
   (fun _ r=>∃ (out:List Nat) (ok:Bool),(r=(if ok=true then (some (Sum.inr (cI out,())):Option eU) else some (Sum.inl (cI out,false,())))∨(ok=true∧r=(some (Sum.inl (cI out,true,())):Option eU)))∧(ok=false↔mE (par l) i)∧(pL l→out=cq l i)) ?_ f _
   ⟨[],i,rfl,hi,by simp,by simp,⟨0,rfl⟩,fun hon=>by obtain⟨d,hd⟩:=hon.RY;exact⟨d,hd,by simp⟩,fun _=>by simp⟩ (by dsimp only;simp;omega)
  rintro _ again ⟨out,k,rfl,hk,hnd,hlt,⟨j,hj⟩,hon,hno⟩ ih
  dsimp only at ih
  have hlen:=uF l.length out hnd hlt
  unfold l9
  dsimp only
  have hy:l[k]? =some l[k]:=au hk
  generalize l[k]=p at hy
  rw[bD,hy,UT,UT]
  rcases MX h1 hy with ⟨g1,g2⟩ | ⟨g1,k',g2,g3⟩
  ·rw[g1]
   refine⟨out,true,.inl rfl, ?_,fun hn=> ?_⟩
   ·constructor
    ·intro h;cases h
    ·intro h
     obtain⟨d,hd,_⟩:=hon h
     obtain⟨k',e,_⟩:=hd.step
     rw[g2] at e;cases e
   ·have:=hno hn
    rw[Ix g2,List.append_nil] at this
    exact this
  ·have hk':=Gu g2
   rw[show (!(p.2.1==[]))=true by cases hp:p.2.1<;>simp_all,U5]
   obtain⟨q,hq1,hq2⟩:=hat p.2.1
   have:q=k':=hq2 k' g3
   subst this
   rw[hq1,UT]
   dsimp only
   by_cases e1:q=i
   ·subst e1
    rw[show ((q:Int)==(q:Int))=true by simp,U5]
    have hloop:mE (par l) q:=⟨j,by rw[HG (b:=1) hj];simp[itp,g2]⟩
    exact⟨[],false,.inl rfl,⟨fun _=>hloop,fun _=>rfl⟩,fun hn=>absurd hloop (hn q hi)⟩
   ·rw[show ((q:Int)==(i:Int))=false by rw[beq_eq_false_iff_ne];omega,U4,pY _ _ (by rw[nM];omega),UT]
    by_cases e2:q∈out
    ·rw[U8 (Oj.2 e2),U5]
     refine⟨out,true,.inr ⟨rfl,rfl⟩,⟨fun h=>(by cases h),fun h=> ?_⟩,fun hn=> ?_⟩
     ·obtain⟨d,hd,hx⟩:=hon h
      obtain⟨k2,e,h2⟩:=hd.step
      rw[g2] at e;cases e
      rcases h2 with ⟨h2,_⟩ | ⟨_,e,he,h3⟩
      ·exact absurd h2 e1
      ·obtain⟨f',hf',hx'⟩:=hx q e2
       have:=h3.uniq hx'
       omega
     ·exfalso
      have h3:=hno hn
      have h4:=(Ud.1 (Nk hn hi)).2
      rw[← h3,ya hn hk g2,List.nodup_append] at h4
      exact h4.2.2 q e2 q (by simp) rfl
    ·rw[U7 (fun h=>e2 (Oj.1 h)),U4,bq (jB (by rw[nM];omega) (by rw[nM];omega))]
     refine ih _ ⟨out++[q],q,by simp[cI],hk', ?_, ?_,⟨j+1, ?_⟩,fun h=> ?_,fun hn=> ?_⟩ (by simp[nM];omega)
     ·rw[List.nodup_append]
      exact⟨hnd,by simp,fun x hx y hy=>by simp at hy;subst hy;exact fun e=>e2 (e ▸ hx)⟩
     ·intro x hx
      rcases TW.1 hx with hx | hx
      ·exact hlt x hx
      ·simp at hx;omega
     ·rw[HG (b:=1) hj];simp[itp,g2]
     ·obtain⟨d,hd,hx⟩:=hon h
      obtain⟨k2,e,h2⟩:=hd.step
      rw[g2] at e;cases e
      rcases h2 with ⟨h2,_⟩ | ⟨_,e,he,h3⟩
      ·exact absurd h2 e1
      ·refine⟨e,h3,fun x hx2=> ?_⟩
       rcases TW.1 hx2 with hx2 | hx2
       ·obtain⟨f',hf',hx'⟩:=hx x hx2;exact⟨f',by omega,hx'⟩
       ·simp at hx2;subst hx2;exact⟨e,Uy _,h3⟩
     ·rw[← hno hn,ya hn hk g2,Tc];rfl
 obtain⟨out,ok,h2,h3,h4⟩:=loop (Int.natAbs (i:Int)+(List.length ([]:List Int)+(Int.natAbs (i:Int)+(List.length a1+(List.length a2+(Int.natAbs a3+(List.length l+2))))))) (by omega)
 refine⟨out,ok, ?_,h3,h4⟩
 rcases h2 with h2 | ⟨h5,h2⟩
 ·rw[h2]
  cases ok<;>rfl
 ·rw[h2,h5];rfl
end Go.Md
namespace Go.Md
open Go.Dn
def n1 (l:List aa) (p:aa):Int:=if p.2.1≠[]∧(dF (·.1) p.2.1 l).isSome=false then 9 else 0
open Classical in
noncomputable def n2 (l:List aa) (i:Nat):Int:=if mE (par l) i then 17 else 0
def n3 (l:List aa) (i:Nat):Int:=if 5<(cq l i).length then 2 else 0
def K0 (l:List aa):Int:=dR (fun _ p=>n1 l p) 0 l
noncomputable def K1 (l:List aa):Int:=dR (fun i _=>n2 l i) 0 l
def Rq (l:List aa):Int:=dR (fun i _=>n3 l i) 0 l
noncomputable def JV (l:List aa):Int:=if K0 l≠0 then K0 l else if K1 l≠0 then K1 l else Rq l
theorem Ec {l:List aa} (h:K0 l=0):JN l:=by
 intro p hp
 obtain⟨i,hi⟩:=T3.1 hp
 have:=iC h i p hi
 unfold n1 at this
 by_cases h1:p.2.1=[]
 ·exact .inl h1
 ·cases h2:(dF (fun x:aa=>x.1) p.2.1 l).isSome with
  | true=>exact .inr rfl
  | false=>rw[Vg ⟨h1,h2⟩] at this;omega
theorem Ed {l:List aa} (h:K1 l=0):pL l:=by
 intro k hk hon
 have:=iC h k l[k] (au hk)
 unfold n2 at this
 rw[UR,Vg hon] at this
 omega
theorem Lr {γ:Type} (s:Int) (u:γ) (k:γ→Option (Int×Unit)) (z:Int) (hk:s=0→k u=some (z,())):bu (β:=Int×Unit) (γ:=γ) (if s=0 then some (Sum.inr u) else some (Sum.inl (s,()))) k=some (if s≠0 then s else z,()):=by
 by_cases h:s=0
 ·rw[Vg h,aS,hk h,Vf (by simpa using h)]
 ·rw[Vf h,iI,Vg h]
theorem RC {γ:Type} (s:Int) (u:γ):bu (β:=Int×Unit) (γ:=γ) (if s=0 then some (Sum.inr u) else some (Sum.inl (s,()))) (fun _=>some (0,()))=some (s,()):=Qu s u
theorem BF (a:aC) (hl:a.2.2.2.length≤500) (hs:Asc (·.1) a.2.2.2):mc a=some (JV a.2.2.2,()):=by
 unfold mc JV
 have hat:=fun t=>gH a t (by omega) hs
 have har:=fun h1 i hi=>w8 a hl hs h1 i hi
 obtain⟨a1,a2,a3,l⟩:=a
 dsimp only at*
 rw[oF (f:=jh) (fun i=>((l,(l.length:Int),(i:Int),a1,a2,a3,l,()):jj)) l (fun _ p=>n1 l p) (a1,a2,a3,l,()) ?_ ?_ ?_ _ ?_]
 ·refine Lr _ _ _ _ fun z1=> ?_
  have h1:=Ec z1
  dsimp only
  rw[oF (f:=ji) (fun i=>(((l.length:Int),(i:Int),a1,a2,a3,l,()):jk)) l (fun i _=>n2 l i) (a1,a2,a3,l,()) ?_ ?_ ?_ _ ?_]
  ·refine Lr _ _ _ _ fun z2=> ?_
   have h2:=Ed z2
   dsimp only
   rw[oF (f:=iA) (fun i=>(((l.length:Int),(i:Int),a1,a2,a3,l,()):iB)) l (fun i _=>n3 l i) () ?_ ?_ ?_ _ ?_]
   ·exact RC _ _
   ·rfl
   ·intro i y again hy
    have hi:=(TC.1 hy).1
    unfold iA
    dsimp only
    obtain⟨out,ok,g1,g2,g3⟩:=har h1 i hi
    rw[aK (by omega),g1,UT,aB (by omega) (by omega)]
    dsimp only
    rw[g3 h2,nM]
    unfold n3
    by_cases h5:5<(cq l i).length
    ·rw[aK (by omega),Vg h5,Vf (by omega)]
    ·rw[aT (by omega),Vf h5,Vg rfl];rfl
   ·intro again
    unfold iA
    dsimp only
    rw[aT (by omega)]
   ·omega
  ·rfl
  ·intro i y again hy
   have hi:=(TC.1 hy).1
   unfold ji
   dsimp only
   obtain⟨out,ok,g1,g2,g3⟩:=har h1 i hi
   rw[aK (by omega),g1,UT,aB (by omega) (by omega)]
   dsimp only
   unfold n2
   by_cases hon:mE (par l) i
   ·rw[g2.2 hon,Vg hon,Vf (by omega)];rfl
   ·have:ok=true:=by
     cases ok with
     | true=>rfl
     | false=>exact absurd (g2.1 rfl) hon
    rw[this,Vf hon,Vg rfl];rfl
  ·intro again
   unfold ji
   dsimp only
   rw[aT (by omega)]
  ·omega
 ·rfl
 ·intro i y again hy
  have hi:=(TC.1 hy).1
  unfold jh
  dsimp only
  obtain⟨q,hq1,hq2⟩:=hat y.2.1
  rw[aK (by omega),bD,hy,UT,hq1,UT,aB (by omega) (by omega)]
  dsimp only
  by_cases e1:y.2.1=[]
  ·have hn:n1 l y=0:=by unfold n1;rw[Vf (fun h=>h.1 e1)]
   rw[hn,Vg rfl,e1];rfl
  ·rw[show (!(y.2.1==[]))=true by cases hp:y.2.1<;>simp_all,U5]
   cases h2:(dF (fun x:aa=>x.1) y.2.1 l).isSome with
   | true=>
    have hn:n1 l y=0:=by unfold n1;rw[Vf (fun h=>by rw[h2] at h;exact absurd h.2 (by simp))]
    rw[hn,Vg rfl];rfl
   | false=>
    have hn:n1 l y=9:=by unfold n1;rw[Vg ⟨e1,h2⟩]
    rw[hn,Vf (by omega)];rfl
 ·intro again
  unfold jh
  dsimp only
  rw[aT (by omega)]
 ·omega
noncomputable def cR (a:aC):Int:=
 if nP a.1=false then 5 else if nP a.2.1=false then 5 else if ¬(1≤a.2.2.1∧a.2.2.1≤3652059) then 1
 else if 500<a.2.2.2.length then 2 else if dR (kN a.2.2.2) 0 a.2.2.2≠0 then dR (kN a.2.2.2) 0 a.2.2.2 else JV a.2.2.2
theorem BV {l:List aa} (h:dR (kN l) 0 l=0):Asc (·.1) l:=by
 have step:∀ i x y,l[i]? =some x→l[i+1]? =some y→Op.bytesLess x.1 y.1=true:=fun i x y hx hy=>by
  have:=iC h (i+1) y hy
  rw[UR] at this
  unfold kN at this
  split at this
  ·omega
  ·split at this
   ·omega
   ·rename_i h2
    have h3:Dh l (i+1) y=false:=by simpa using h2
    simp only[Dh,hx,SH,beq_eq_false_iff_ne] at h3
    rcases BW x.1 y.1 with h1 | h1 | h1
    ·exact h1
    ·exact absurd h1.symm h3.2
    ·rw[h3.1] at h1;cases h1
 intro i j x y hij hx hy
 induction j generalizing y with
 | zero=>omega
 | succ j ih=>
  rcases UF.1 hij with h1 | h1
  ·have hj:j<l.length:=by have:=(TC.1 hy).1;omega
   have hz:l[j]? =some l[j]:=au hj
   exact mT (ih _ h1 hz) (step j _ y hz hy)
  ·subst h1;exact step i x y hx hy
def zX (a:aC):Prop:=∀ p∈a.2.2.2,p.1.length≤9223372036854775807
theorem kZ (a:aC) (hf:zX a):jW a=some (cR a,()):=by
 unfold jW cR
 simp only[Bc,KR,UT]
 cases nP a.1 with
 | false=>rfl
 | true=>
 cases nP a.2.1 with
 | false=>rfl
 | true=>
 simp only[SG,U4,Bool.true_eq_false,Ve]
 by_cases n_c1:¬(1≤a.2.2.1∧a.2.2.1≤3652059)
 ·rw[U7 n_c1,Vg n_c1];rfl
 have c1:=Decidable.of_not_not n_c1
 rw[U8 c1,Vf (by simpa using c1),SG,U4]
 by_cases c2:500<a.2.2.2.length
 ·rw[aK (by omega),Vg c2]
 rw[aT (by omega),Vf c2]
 obtain⟨a1,a2,a3,l⟩:=a
 dsimp only at*
 rw[oF (f:=gM) (fun i=>(((l.length:Int),(i:Int),a1,a2,a3,l,()):gN)) l (kN l) (a1,a2,a3,l,()) ?_ ?_ ?_ _ ?_]
 ·refine Lr _ _ _ _ fun z=> ?_
  dsimp only
  rw[BF (a1,a2,a3,l) (by dsimp only;omega) (BV z),UT]
 ·rfl
 ·intro i y again hy
  have hi:=(TC.1 hy).1
  unfold gM
  dsimp only
  rw[aK (by omega),zG l i y hy (by omega) (hf y (T6 hy)),UT,aB (by omega) (by omega)]
  dsimp only
  by_cases hz:kN l i y=0
  ·rw[hz];rfl
  ·rw[show (kN l i y != 0)=true by simpa using hz,U5,Vf hz]
 ·intro again
  unfold gM
  dsimp only
  rw[aT (by omega)]
 ·omega
end Go.Md
namespace Go.Md
open Go.Dn
theorem xw (l:List (List UInt8)) (hl:l.length<1000000):gQ l=some (l.reverse,()):=by
 unfold gQ
 rw[aB (n:=(l.length:Int) - 1) (by omega) (by omega)]
 have loop:∀ f,l.length<f→iter f (((0:Int),(l.length:Int) - 1,l,()):dK) fF=some (Sum.inr (l.reverse,())):=by
  intro f hf
  refine bM (Inv:=fun c X=>∃ s:List (List UInt8),X=(((c:Int),(l.length:Int) - 1 - c,s,()):dK)∧s.length=l.length∧∀ k,k<l.length→s[k]? =if k<c∨l.length≤k+c then l[l.length - 1 - k]? else l[k]?) (l.length / 2)
   (fun r=>r=some (Sum.inr (l.reverse,()))) ?_ ?_ f 0 _ ⟨l, ?_,rfl,fun k hk=>by rw[Vf (by omega)]⟩ (by omega) (by omega)
  ·rintro c _ again hc ⟨s,rfl,h1,h2⟩ ih
   unfold fF
   dsimp only
   have hj:(l.length:Int) - 1 - c=((l.length - 1 - c:Nat):Int):=by omega
   have hy2:s[l.length - 1 - c]? =some (s[l.length - 1 - c]'(by omega)):=au (by omega)
   have hy3:s[c]? =some (s[c]'(by omega)):=au (by omega)
   have v2:=h2 (l.length - 1 - c) (by omega)
   have v3:=h2 c (by omega)
   rw[Vf (by omega)] at v2 v3
   rw[hy2] at v2
   rw[hy3] at v3
   generalize s[l.length - 1 - c]'(by omega)=y2 at hy2 v2
   generalize s[c]'(by omega)=y3 at hy3 v3
   rw[aK (by omega),hj,bq (by simp only[Sx,U9];omega),S7,hy2,UT,bq (by simp only[Sx,U9];omega),S7,hy3,UT,bq (by simp only[Sx,U9];omega),UT,
    bq (by simp only[Sx,U9,TR];omega),TG (by omega),hy2,UT,aB (by omega) (by omega),aB (by omega) (by omega)]
   refine ih _ ⟨(s.set c y2).set (l.length - 1 - c) y3, ?_,by simp[h1],fun k hk=> ?_⟩
   ·rw[show ((l.length - 1 - c:Nat):Int) - 1=(l.length:Int) - 1 - ((c+1:Nat):Int) by omega];rfl
   ·rw[TF]
    by_cases e1:l.length - 1 - c=k
    ·rw[Vg e1,Vg (by simp;omega),Vg (by omega),v3,show l.length - 1 - k=c by omega]
    ·rw[Vf e1,TF]
     by_cases e2:c=k
     ·subst e2
      rw[Vg rfl,Vg (by omega),Vg (by omega),v2]
     ·rw[Vf e2,h2 k hk]
      by_cases e3:k<c∨l.length≤k+c
      ·rw[Vg e3,Vg (by omega)]
      ·rw[Vf e3,Vf (by omega)]
  ·rintro _ again ⟨s,rfl,h1,h2⟩
   unfold fF
   dsimp only
   rw[aT (by omega)]
   congr 2
   have:s=l.reverse:=by
    apply Tn
    intro k
    by_cases hk:k<l.length
    ·rw[h2 k hk,List.getElem?_reverse hk]
     by_cases e:k<l.length / 2∨l.length≤k+l.length / 2
     ·rw[Vg e]
     ·rw[Vf e,show l.length - 1 - k=k by omega]
    ·rw[TB (by omega),TB (by simp;omega)]
   rw[this]
  ·rw[show (l.length:Int) - 1 - ((0:Nat):Int)=(l.length:Int) - 1 by omega];rfl
 rw[loop _ (by omega),aS]
structure Fo (a:aC):Prop where
 len:a.2.2.2.length≤500
 asc:Asc (·.1) a.2.2.2
 n1:JN a.2.2.2
 nl:pL a.2.2.2
theorem fK {a:aC} (h:cR a=0):Fo a:=by
 unfold cR at h
 split at h
 ·omega
 split at h
 ·omega
 split at h
 ·omega
 split at h
 ·omega
 split at h
 ·omega
 rename_i h1 h2
 have h3:dR (kN a.2.2.2) 0 a.2.2.2=0:=by omega
 unfold JV at h
 split at h
 ·omega
 rename_i h4
 split at h
 ·omega
 rename_i h5
 exact⟨by omega,BV h3,Ec (by omega),Ed (by omega)⟩
def lab (l:List aa) (i:Nat):List UInt8:=((l[i]?).map (·.1)).getD []
theorem oI {l:List aa} {i:Nat} {p:aa} (h:l[i]? =some p):lab l i=p.1:=by unfold lab;rw[h];rfl
theorem KU {l:List aa} (hs:Asc (·.1) l) {t:List UInt8} {T i:Nat} (hT:dF (·.1) t l=some T) (hi:i<l.length):lab l i=t↔i=T:=by
 have hp:l[i]? =some l[i]:=au hi
 rw[oI hp]
 constructor
 ·intro h
  have:=vZ hs hp h
  rw[hT] at this;cases this;rfl
 ·rintro rfl
  obtain⟨x,h1,h2⟩:=nQ hT
  rw[hp] at h1;cases h1;exact h2
theorem rW (a:aC) (hf:zX a) (t:List UInt8):cZ a t false=some (if cR a≠0 then cR a else if (dF (·.1) t a.2.2.2).isSome=true then 0 else 9,()):=by
 unfold cZ
 rw[kZ a hf,UT]
 dsimp only
 by_cases h:cR a=0
 ·have hok:=fK h
  have:=hok.len
  obtain⟨q,h1,h2⟩:=gH a t (by omega) hok.asc
  rw[h,show ((0:Int) != 0)=false from rfl,U4,h1,UT,Vf (by simp)]
  cases (dF (fun x:aa=>x.1) t a.2.2.2).isSome<;>rfl
 ·rw[show (cR a != 0)=true by simpa using h,U5,Vg h]
theorem Iz {a:aC} (h:Fo a) {i:Nat} (hi:i<a.2.2.2.length):fN a (i:Int)=some (cI (cq a.2.2.2 i),true,()):=by
 obtain⟨out,ok,g1,g2,g3⟩:=w8 a h.len h.asc h.n1 i hi
 have:ok=true:=by
  cases ok with
  | true=>rfl
  | false=>exact absurd (g2.1 rfl) (h.nl i hi)
 rw[g1,g3 h.nl,this]
theorem uR {a:aC} (h:Fo a) {i T:Nat} (hi:i<a.2.2.2.length) {t:List UInt8} (hT:dF (·.1) t a.2.2.2=some T):gO a (i:Int) t=some (decide (T∈cq a.2.2.2 i),()):=by
 unfold gO jw mg
 rw[Iz h hi,UT]
 dsimp only
 have hlt:∀ x∈cq a.2.2.2 i,x<a.2.2.2.length:=fun x hx=>C2 hx
 have hlen:=zZ h.nl hi
 have hl:=h.len
 generalize cq a.2.2.2 i=L at*
 have loop:∀ f,L.length<f→∃ n:Int,iter f ((cI L,(a,t),((cI L).length:Int),(0:Int),()):dV) fW=(if T∈L then some (Sum.inl (n,())) else some (Sum.inr ()))∧0≤n:=by
  intro f hf
  refine bM (Inv:=fun c X=>X=((cI L,(a,t),((cI L).length:Int),(c:Int),()):dV)∧∀ j y,j<c→L[j]? =some y→y≠T) L.length
   (fun r=>∃ n:Int,r=(if T∈L then some (Sum.inl (n,())) else some (Sum.inr ()))∧0≤n) ?_ ?_ f 0 _ ⟨rfl,fun _ _ h=>absurd h (UM _)⟩ (by omega) (by omega)
  ·rintro c _ again hc ⟨rfl,hb⟩ ih
   unfold fW o9
   dsimp only
   have hy:L[c]? =some L[c]:=au hc
   have hyl:=hlt _ (TL hc)
   generalize L[c]=y at hy hyl
   have hy':(cI L)[c]? =some (y:Int):=by unfold cI;rw[TD,hy];rfl
   have hp:a.2.2.2[y]? =some a.2.2.2[y]:=au hyl
   rw[aK (by rw[nM];omega),bD,hy',UT,bD,hp,UT,UT]
   dsimp only
   have hle:=KU h.asc hT hyl
   rw[oI hp] at hle
   by_cases he:y=T
   ·rw[show (a.2.2.2[y].1==t)=true by simpa using hle.2 he,U5]
    exact⟨c,by rw[Vg (he ▸ T6 hy)],by omega⟩
   ·rw[show (a.2.2.2[y].1==t)=false by simpa using fun e=>he (hle.1 e),U4,aB (by omega) (by omega)]
    refine ih _ ⟨rfl,fun j z hj hz=> ?_⟩
    rcases UF.1 hj with h | h
    ·exact hb j z h hz
    ·subst h;rw[hy] at hz;cases hz;exact he
  ·rintro _ again ⟨rfl,hb⟩
   unfold fW
   dsimp only
   rw[aT (by rw[nM];omega)]
   refine⟨0, ?_,SM _⟩
   rw[Vf]
   intro hm
   obtain⟨j,hj⟩:=T3.1 hm
   exact hb j T (TC.1 hj).1 hj rfl
 obtain⟨n,h1,h2⟩:=loop (List.length (cI L)+(Int.natAbs ((List.length (cI L):Int))+(Int.natAbs (0:Int)+2))) (by rw[nM];omega)
 rw[h1]
 by_cases hm:T∈L
 ·rw[Vg hm,iI,UT,UT,U8 hm]
  congr 2
  exact U8 h2
 ·rw[Vf hm,aS,UT,UT,U7 hm]
  rfl
def wIn (l:List aa) (T n:Nat):List (List UInt8):=((List.range n).filter (fun i=>decide (T∈cq l i))).map (lab l)
theorem Nc (l:List aa) (T n:Nat):(wIn l T n).length≤n:=by
 unfold wIn
 rw[TO]
 exact Uz (List.length_filter_le _ _) (by simp)
theorem Qi (l:List aa) (T n:Nat):wIn l T (n+1)=if T∈cq l n then wIn l T n++[lab l n] else wIn l T n:=by
 unfold wIn
 rw[List.range_succ,To,List.map_append]
 by_cases h:T∈cq l n
 ·simp[h]
 ·simp[h]
def R7 (l:List aa):Option Nat→List (List UInt8)×Int×Unit
 | some T=>(wIn l T l.length,0,())
 | none=>([],9,())
theorem Fb (a:aC) (hf:zX a) (t:List UInt8):mN a t=some (if cR a≠0 then ([],cR a,()) else R7 a.2.2.2 (dF (·.1) t a.2.2.2)):=by
 unfold mN
 rw[rW a hf t,UT]
 dsimp only
 by_cases h:cR a=0
 ·have hok:=fK h
  rw[Vf (show ¬ (cR a≠0) by simpa using h),Vf (show ¬ (cR a≠0) by simpa using h)]
  cases hT:dF (fun x:aa=>x.1) t a.2.2.2 with
  | none=>rfl
  | some T=>
   rw[Option.isSome_some,Vg rfl,show ((0:Int) != 0)=false from rfl,U4]
   have hl:=hok.len
   have hw:∀ i,i<a.2.2.2.length→gO a (i:Int) t=some (decide (T∈cq a.2.2.2 i),()):=fun i hi=>uR hok hi hT
   obtain⟨a1,a2,a3,l⟩:=a
   dsimp only at*
   have loop:∀ f,l.length<f→iter f ((t,([]:List (List UInt8)),l,(l.length:Int),(0:Int),a1,a2,a3,l,()):iT) l8=some (Sum.inr (wIn l T l.length,())):=by
    intro f hf'
    refine bM (Inv:=fun i X=>X=((t,wIn l T i,l,(l.length:Int),(i:Int),a1,a2,a3,l,()):iT)) l.length (fun r=>r=some (Sum.inr (wIn l T l.length,()))) ?_ ?_ f 0 _ rfl (by omega) (by omega)
    ·rintro i _ again hi rfl ih
     unfold l8
     dsimp only
     have hy:l[i]? =some l[i]:=au hi
     have hwl:=Nc l T i
     rw[aK (by omega),bD,hy,UT,hw i hi,UT,aB (by omega) (by omega)]
     dsimp only
     have hs:=Qi l T i
     by_cases hm:T∈cq l i
     ·rw[U8 hm,U5,bq (jB (by omega) (by omega))]
      refine ih _ ?_
      rw[hs,Vg hm,oI hy]
      rfl
     ·rw[U7 hm,U4]
      refine ih _ ?_
      rw[hs,Vf hm]
      rfl
    ·rintro _ again rfl
     unfold l8
     dsimp only
     rw[aT (by omega)]
   rw[loop _ (by omega),aS]
   rfl
 ·rw[Vg h,Vg h,show (cR a != 0)=true by simpa using h,U5]
def Rs (l:List aa):Option Nat→List (List UInt8)×Int×Unit
 | some T=>(((T::cq l T).map (lab l)).reverse,0,())
 | none=>([],9,())
theorem HY (a:aC) (hf:zX a) (t:List UInt8):pV a t=some (if cR a≠0 then ([],cR a,()) else Rs a.2.2.2 (dF (·.1) t a.2.2.2)):=by
 unfold pV
 rw[rW a hf t,UT]
 dsimp only
 by_cases h:cR a=0
 ·have hok:=fK h
  have hl:=hok.len
  rw[Vf (show ¬ (cR a≠0) by simpa using h),Vf (show ¬ (cR a≠0) by simpa using h)]
  obtain⟨q,hq1,hq2⟩:=gH a t (by omega) hok.asc
  cases hT:dF (fun x:aa=>x.1) t a.2.2.2 with
  | none=>rfl
  | some T=>
   have:q=T:=hq2 T hT
   subst this
   have hTl:q<a.2.2.2.length:=by
    obtain⟨x,hx,_⟩:=nQ hT
    exact (TC.1 hx).1
   rw[Option.isSome_some,Vg rfl,show ((0:Int) != 0)=false from rfl,U4,hq1,UT]
   dsimp only
   rw[Iz hok hTl,UT]
   dsimp only
   have hlab:lab a.2.2.2 q=t:=(KU hok.asc hT hTl).2 rfl
   have hlt:∀ x∈cq a.2.2.2 q,x<a.2.2.2.length:=fun x hx=>C2 hx
   have hlen:=zZ hok.nl hTl
   have e:Rs a.2.2.2 (some q)=((t::(cq a.2.2.2 q).map (lab a.2.2.2)).reverse,0,()):=by
    show ((List.map (lab a.2.2.2) (q::cq a.2.2.2 q)).reverse,(0:Int),())=_
    rw[TU,hlab]
   rw[e]
   generalize cq a.2.2.2 q=L at*
   obtain⟨a1,a2,a3,l⟩:=a
   dsimp only at*
   have loop:∀ f,L.length<f→iter f (([t],cI L,((cI L).length:Int),(0:Int),a1,a2,a3,l,()):lp) oM=some (Sum.inr (t::L.map (lab l),())):=by
    intro f hf'
    refine bM (Inv:=fun i X=>X=((t::(L.take i).map (lab l),cI L,((cI L).length:Int),(i:Int),a1,a2,a3,l,()):lp)) L.length (fun r=>r=some (Sum.inr (t::L.map (lab l),()))) ?_ ?_ f 0 _ rfl (by omega) (by omega)
    ·rintro i _ again hi rfl ih
     unfold oM
     dsimp only
     have hy:L[i]? =some L[i]:=au hi
     have hyl:=hlt _ (TL hi)
     have htk:=jG hy
     generalize L[i]=y at hy hyl htk
     have hy':(cI L)[i]? =some (y:Int):=by unfold cI;rw[TD,hy];rfl
     have hp:l[y]? =some l[y]:=au hyl
     rw[aK (by rw[nM];omega),bD,hy',UT,bD,hp,UT,aB (by omega) (by omega),bq (jB (by simp;omega) (by simp;omega))]
     refine ih _ ?_
     rw[htk,List.map_append,List.map_singleton,oI hp]
     rfl
    ·rintro _ again rfl
     unfold oM
     dsimp only
     rw[aT (by rw[nM];omega),Um (Uy _)]
   rw[loop _ (by rw[nM];omega),aS]
   dsimp only
   rw[xw _ (by simp;omega),UT]
 ·rw[Vg h,Vg h,show (cR a != 0)=true by simpa using h,U5]
theorem tT:uB=some (true,()):=by kernel_rfl
end Go.Md
