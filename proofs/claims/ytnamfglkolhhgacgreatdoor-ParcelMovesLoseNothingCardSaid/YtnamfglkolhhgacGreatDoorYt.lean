/-
  Plain facts: parcels. No condition.
-/
import Derived.Test.YtnamfglkolhhgacGreatDoorYp
import Derived.Test.YtnamfglkolhhgacGreatDoorYr
import Derived.Test.YtnamfglkolhhgacGreatDoorYn
set_option linter.all false
namespace Go.Md
open Go.Dn
theorem vD:∀ (n:Nat) (l:List Nat),l.Nodup→(∀ x∈l,x<n)→l.length≤n
 | 0,l,_,h=>by
  cases l with
  | nil=>simp
  | cons a r=>exact absurd (h a (by simp)) (Vd _)
 | n+1,l,hd,h=>by
  by_cases hm:n∈l
  ·have h1:=vD n (l.erase n) (hd.erase n) (fun x hx=>by
    have:=(hd.mem_erase_iff).1 hx
    have:=h x this.2
    omega)
   rw[List.length_erase_of_mem hm] at h1
   omega
  ·have:=vD n l hd (fun x hx=>by
    have h2:=h x hx
    have:x≠n:=fun e=>hm (e ▸ hx)
    omega)
   omega
def itp (par:Nat→Option Nat):Nat→Nat→Option Nat
 | 0,i=>some i
 | j+1,i=>(par i).bind (itp par j)
theorem ID {par:Nat→Option Nat}:∀ {a b i k:Nat},itp par a i=some k→itp par (a+b) i=itp par b k
 | 0,b,i,k,h=>by simp only[itp,Option.some.injEq] at h;subst h;rw[Vj]
 | a+1,b,i,k,h=>by
  simp only[itp] at h
  rw[show a+1+b=(a+b)+1 by omega]
  simp only[itp]
  cases hp:par i with
  | none=>rw[hp] at h;cases h
  | some j=>rw[hp] at h;exact ID (a:=a) (by simpa using h)
def nH (par:Nat→Option Nat) (i:Nat):Prop:=∃ j,itp par (j+1) i=some i
def rC (par:Nat→Option Nat) (i k d:Nat):Prop:=itp par (d+1) k=some i∧∀ e,e<d→itp par (e+1) k≠some i
theorem rC.uniq {par:Nat→Option Nat} {i k d e:Nat} (h:rC par i k d) (h':rC par i k e):d=e:=by
 rcases U8 d e with h1 | h1 | h1
 ·exact absurd h.1 (h'.2 d h1)
 ·exact h1
 ·exact absurd h'.1 (h.2 e h1)
theorem rC.step {par:Nat→Option Nat} {i k d:Nat} (h:rC par i k d):∃ k',par k=some k'∧((k'=i∧d=0)∨(k'≠i∧∃ e,d=e+1∧rC par i k' e)):=by
 obtain⟨h1,h2⟩:=h
 simp only[itp] at h1
 cases hp:par k with
 | none=>rw[hp] at h1;cases h1
 | some k'=>
  rw[hp] at h1
  refine⟨k',rfl, ?_⟩
  cases d with
  | zero=>simp only[Vl,itp,Option.some.injEq] at h1;exact .inl ⟨h1,rfl⟩
  | succ e=>
   right
   refine⟨fun e1=> ?_,e,rfl,by simpa using h1,fun f hf hx=> ?_⟩
   ·refine h2 0 (by omega) ?_
    simp only[itp,hp,Vl,e1]
   ·refine h2 (f+1) (by omega) ?_
    rw[show f+1+1=(f+1)+1 from rfl]
    show (par k).bind (itp par (f+1))=some i
    rw[hp];exact hx
theorem nH.Sk {par:Nat→Option Nat} {i:Nat} (h:nH par i):∃ d,rC par i i d:=by
 obtain⟨j,hj⟩:=h
 induction j using Nat.strongRecOn with
 | _ j ih=>
  by_cases hx:∃ e,e<j∧itp par (e+1) i=some i
  ·obtain⟨e,h1,h2⟩:=hx;exact ih e h1 h2
  ·exact⟨j,hj,fun e he h2=>hx ⟨e,he,h2⟩⟩
theorem rC.list {par:Nat→Option Nat} {i n:Nat} (hn:∀ k k',par k=some k'→k'<n):∀ {d k:Nat},k<n→rC par i k d→∃ l:List Nat,l.length=d+1∧l.Nodup∧(∀ x∈l,x<n)∧∀ x∈l,∃ e,e≤d∧rC par i x e
 | 0,k,hk,h=>⟨[k],rfl,by simp,by simpa using hk,fun x hx=>by simp at hx;subst hx;exact⟨0,U0 _,h⟩⟩
 | d+1,k,hk,h=>by
  obtain⟨k',h1,h2⟩:=h.step
  rcases h2 with ⟨_,h2⟩ | ⟨_,e,h2,h3⟩
  ·omega
  ·have:e=d:=by omega
   subst this
   obtain⟨l,l1,l2,l3,l4⟩:=rC.list hn (hn _ _ h1) h3
   refine⟨k::l,by simp[l1],Uy.2 ⟨fun hm=> ?_,l2⟩,fun x hx=> ?_,fun x hx=> ?_⟩
   ·obtain⟨f,f1,f2⟩:=l4 k hm
    have:=f2.uniq h
    omega
   ·rcases Uk.1 hx with rfl | hx
    ·exact hk
    ·exact l3 x hx
   ·rcases Uk.1 hx with rfl | hx
    ·exact⟨e+1,U0 _,h⟩
    ·obtain⟨f,f1,f2⟩:=l4 x hx;exact⟨f,by omega,f2⟩
theorem rC.le {par:Nat→Option Nat} {i n d k:Nat} (hn:∀ k k',par k=some k'→k'<n) (hk:k<n) (h:rC par i k d):d+1≤n:=by
 obtain⟨l,l1,l2,l3,_⟩:=h.list hn hk
 have:=vD n l l2 l3
 omega
def anc (par:Nat→Option Nat):Nat→Nat→List Nat
 | 0,_=>[]
 | f+1,i=>match par i with
  | none=>[]
  | some k=>k::anc par f k
theorem oN {par:Nat→Option Nat} {f i k:Nat} (h:par i=some k):anc par (f+1) i=k::anc par f k:=by simp[anc,h]
theorem xF {par:Nat→Option Nat} {i:Nat} (h:par i=none):∀ f,anc par f i=[]
 | 0=>rfl
 | f+1=>by simp[anc,h]
theorem MV {par:Nat→Option Nat}:∀ {f i x:Nat},x∈anc par f i→∃ j,j<f∧itp par (j+1) i=some x
 | 0,_,_,h=>by simp[anc] at h
 | f+1,i,x,h=>by
  cases hp:par i with
  | none=>simp[anc,hp] at h
  | some k=>
   rw[oN hp] at h
   rcases Uk.1 h with rfl | h
   ·exact⟨0,by omega,by simp[itp,hp]⟩
   ·obtain⟨j,h1,h2⟩:=MV h
    exact⟨j+1,by omega,by show (par i).bind (itp par (j+1))=some x;rw[hp];exact h2⟩
theorem KN {par:Nat→Option Nat} {n:Nat} (hn:∀ k k',par k=some k'→k'<n):∀ {f i x:Nat},x∈anc par f i→x<n
 | 0,_,_,h=>by simp[anc] at h
 | f+1,i,x,h=>by
  cases hp:par i with
  | none=>simp[anc,hp] at h
  | some k=>
   rw[oN hp] at h
   rcases Uk.1 h with rfl | h
   ·exact hn _ _ hp
   ·exact KN hn h
theorem Co {par:Nat→Option Nat} {n:Nat} (hn:∀ k k',par k=some k'→k'<n) (hl:∀ k,k<n→¬ nH par k):∀ {f i:Nat},i<n→(i::anc par f i).Nodup
 | 0,i,_=>by simp[anc]
 | f+1,i,hi=>by
  rw[Uy]
  refine⟨fun hm=> ?_, ?_⟩
  ·obtain⟨j,_,hj⟩:=MV hm
   exact hl i hi ⟨j,hj⟩
  ·cases hp:par i with
   | none=>simp[anc,hp]
   | some k=>
    rw[oN hp]
    exact Co hn hl (hn _ _ hp)
theorem QI {par:Nat→Option Nat} {n:Nat} (hn:∀ k k',par k=some k'→k'<n) (hl:∀ k,k<n→¬ nH par k) {f i:Nat} (hi:i<n):(anc par f i).length<n:=by
 have:=vD n (i::anc par f i) (Co hn hl hi) (fun x hx=>by
  rcases Uk.1 hx with rfl | hx
  ·exact hi
  ·exact KN hn hx)
 simp at this;omega
theorem Jj {par:Nat→Option Nat}:∀ {f g i:Nat},(anc par f i).length<f→f≤g→anc par g i=anc par f i
 | 0,_,_,h,_=>by simp[anc] at h
 | f+1,g,i,h,hg=>by
  obtain⟨g,rfl⟩:∃ g',g=g'+1:=⟨g - 1,by omega⟩
  cases hp:par i with
  | none=>rw[xF hp,xF hp]
  | some k=>
   rw[oN hp] at h ⊢
   rw[oN hp]
   rw[Jj (f:=f) (by simpa using h) (by omega)]
end Go.Md
namespace Go.Md
open Go.Dn
theorem qQ (l:List Int) (x:Int) (hl:l.length<1000000000):ij l x=some (decide (x∈l),()):=by
 unfold ij rQ
 have loop:∀ f,l.length<f→∃ n:Int,iter f ((l,x,(l.length:Int),(0:Int),()):iq) kI=(if x∈l then some (Sum.inl (n,())) else some (Sum.inr ()))∧0≤n:=by
  intro f hf
  refine cN (Inv:=fun i X=>X=((l,x,(l.length:Int),(i:Int),()):iq)∧∀ j y,j<i→l[j]? =some y→y≠x) l.length
   (fun r=>∃ n:Int,r=(if x∈l then some (Sum.inl (n,())) else some (Sum.inr ()))∧0≤n) ?_ ?_ f 0 _ ⟨rfl,fun _ _ h=>absurd h (Vd _)⟩ (by omega) (by omega)
  ·rintro i _ again hi ⟨rfl,hb⟩ ih
   unfold kI
   dsimp only
   have hy:l[i]? =some l[i]:=aI hi
   generalize l[i]=y at hy
   rw[aO (by omega),bL,hy,Vl]
   by_cases he:x=y
   ·rw[show (x==y)=true by simpa using he,Vx]
    exact⟨i,by rw[VH (he ▸ Uq hy)],by omega⟩
   ·rw[show (x==y)=false by simpa using he,Vw,aR (by omega) (by omega)]
    refine ih _ ⟨rfl,fun j z hj hz=> ?_⟩
    rcases U6.1 hj with h | h
    ·exact hb j z h hz
    ·subst h;rw[hy] at hz;cases hz;exact fun e=>he e.symm
  ·rintro _ again ⟨rfl,hb⟩
   unfold kI
   dsimp only
   rw[aX (by omega)]
   refine⟨0, ?_,Ti _⟩
   rw[VG]
   intro hm
   obtain⟨j,hj⟩:=Uo.1 hm
   exact hb j x (TU.1 hj).1 hj rfl
 obtain⟨n,h1,h2⟩:=loop (List.length l+(Int.natAbs x+(Int.natAbs ((List.length l:Int))+(Int.natAbs (0:Int)+2)))) (by omega)
 rw[h1]
 by_cases hm:x∈l
 ·rw[VH hm,oU,Vl,VA hm]
  congr 2
  exact VA h2
 ·rw[VG hm,aZ,Vl,Vy hm]
  rfl
def xN (c:UInt8):Bool:=decide (48≤c.toNat)&&decide (c.toNat≤57)
theorem Lf {c:UInt8}:(decide ((c.toNat:Int)<48)=false∧decide ((c.toNat:Int)>57)=false)↔xN c=true:=by
 simp only[xN,SX,VB,Vz]
 omega
theorem Hh (s:List UInt8) (hs:s.length≤9223372036854775807):oV s=some (decide (s≠[])&&s.all xN,()):=by
 unfold oV zD
 by_cases h0:s=[]
 ·subst h0;rfl
 ·rw[show (!(s==[]))=true by cases s<;>simp_all,Vx,VA h0,Tg]
  have loop:∀ f,s.length<f→iter f ((s,(48:Int),(57:Int),(s.length:Int),(0:Int),()):mm) pX=(if s.all xN=true then some (Sum.inr ()) else some (Sum.inl (false,()))):=by
   intro f hf
   refine cN (Inv:=fun i X=>X=((s,(48:Int),(57:Int),(s.length:Int),(i:Int),()):mm)∧(s.take i).all xN=true) s.length
    (fun r=>r=(if s.all xN=true then some (Sum.inr ()) else some (Sum.inl (false,())))) ?_ ?_ f 0 _ ⟨rfl,by simp⟩ (by omega) (by omega)
   ·rintro i _ again hi ⟨rfl,hb⟩ ih
    unfold pX
    dsimp only
    have hy:s[i]? =some s[i]:=aI hi
    have hym:s[i]∈s:=T6 hi
    generalize s[i]=y at hy hym
    rw[aO (by omega),L7 hy,Vl,Vl,aR (by omega) (by omega)]
    cases hd:xN y with
    | true=>
     obtain⟨h1,h2⟩:=Lf.2 hd
     rw[h1,h2,Vw,Vw]
     refine ih _ ⟨rfl, ?_⟩
     rw[wG hy]
     simp[hb,hd]
    | false=>
     have hall:s.all xN=false:=by
      rw[List.all_eq_false]
      exact⟨y,hym,by simp[hd]⟩
     rw[hall]
     cases h1:decide ((y.toNat:Int)<48) with
     | true=>rfl
     | false=>
      cases h2:decide ((y.toNat:Int)>57) with
      | true=>rfl
      | false=>have:=Lf.1 ⟨h1,h2⟩;rw[hd] at this;cases this
   ·rintro _ again ⟨rfl,hb⟩
    unfold pX
    dsimp only
    rw[aX (by omega)]
    rw[UN (U0 _)] at hb
    rw[VH hb]
  rw[loop _ (by omega)]
  cases s.all xN<;>rfl
theorem MQ (s:List UInt8) (hs:s.length≤100):∃ b,DA s=some (b,()):=by
 unfold DA
 have loop:∀ f,s.length<f→∃ n:Int,iter f ((s,(0:Int),(s.length:Int),(0:Int),()):pe) s7=some (Sum.inr (n,())):=by
  intro f hf
  refine cN (Inv:=fun i X=>∃ n:Int,X=((s,n,(s.length:Int),(i:Int),()):pe)) s.length
   (fun r=>∃ n:Int,r=some (Sum.inr (n,()))) ?_ ?_ f 0 _ ⟨0,rfl⟩ (by omega) (by omega)
  ·rintro i _ again hi ⟨n,rfl⟩ ih
   unfold s7
   dsimp only
   have e:w64 (w64 ((s.length:Int) - 1) - (i:Int))=((s.length - 1 - i:Nat):Int):=by
    rw[aR (n:=(s.length:Int) - 1) (by omega) (by omega),aR (by omega) (by omega)];omega
   have hy:s[s.length - 1 - i]? =some (s[s.length - 1 - i]'(by omega)):=aI (by omega)
   rw[aO (by omega),e,L7 hy,Vl,aR (n:=(i:Int)+1) (by omega) (by omega)]
   cases (Int.tmod (i:Int) 2==1) with
   | true=>rw[Vx];exact ih _ ⟨_,rfl⟩
   | false=>rw[Vw];exact ih _ ⟨_,rfl⟩
  ·rintro _ again ⟨n,rfl⟩
   unfold s7
   dsimp only
   rw[aX (by omega)]
   exact⟨n,rfl⟩
 obtain⟨n,h⟩:=loop (List.length s+(Int.natAbs (0:Int)+(Int.natAbs ((List.length s:Int))+(Int.natAbs (0:Int)+2)))) (by omega)
 rw[h]
 exact⟨_,rfl⟩
def lbl (s:List UInt8):Bool:=decide (s.length=18)&&(s.all xN&&((DA s).map (·.1)).getD false)
theorem EJ (s:List UInt8) (hs:s.length≤9223372036854775807):qd s=some (lbl s,()):=by
 unfold qd sL qX ov tN
 rw[pY,Vl,Vl]
 dsimp only
 rw[show (!(!(decide ((3:Int)<1∨(5:Int)<3))))=false by decide,Vw,show ((3:Int)==4)=false from rfl,show ((3:Int)==5)=false from rfl,show ((3:Int)==1)=false from rfl,show ((3:Int)==2)=false from rfl]
 simp only[Vw,Vl]
 rw[qQ _ _ (by decide),Vl,Hh s hs]
 unfold lbl
 by_cases hl:s.length=18
 ·obtain⟨b,hb⟩:=MQ s (by omega)
  have hb2:xE s=some (b,()):=hb
  have hne:s≠[]:=fun e=>by subst e;cases hl
  rw[VA (show (s.length:Int)∈[18] by simp;omega),Vx,Vl,VA hne,Tg,VA hl,Tg,hb2,hb]
  cases s.all xN<;>simp
 ·rw[Vy (show ¬ (s.length:Int)∈[18] by simp;omega),Vy hl]
  rfl
def qOk (d:aj) (zero:Bool):Bool:=inR d 0 1000000000 3&&(!(d.1==0)||zero)
theorem Hv {d:aj} (hd:er d):sY d 3 1000000000=some (inR d 0 1000000000 3,()):=by
 unfold sY
 have hp:=Dz d.2.toNat
 have hp2:(10:Int) ^ d.2.toNat≤1000000000:=by
  have:=Vg (n:=10) (by omega) (show d.2.toNat≤9 by have:=hd.2.2;omega)
  have h2:=Int.ofNat_le.2 this
  simpa using h2
 rw[IU d.2 hd.2.1 (by have:=hd.2.2;omega)]
 have e:inR d 0 1000000000 3=(decide (d.2≤3)&&(decide (d.1≥0)&&decide (d.1≤1000000000*10 ^ d.2.toNat))):=by
  unfold inR
  rw[← Bool.decide_and, ← Bool.decide_and,decide_eq_decide,Int.zero_mul]
  constructor
  ·rintro⟨_,h2,h3,h4⟩;exact⟨h2,h3,h4⟩
  ·rintro⟨h2,h3,h4⟩;exact⟨hd,h2,h3,h4⟩
 rw[e,Vl,aR (n:=1000000000*10 ^ d.2.toNat) (by omega) (by omega)]
 cases decide (d.2≤3)<;>cases decide (d.1≥0)<;>cases decide (d.1≤1000000000*10 ^ d.2.toNat)<;>rfl
theorem qN (d:aj) (z:Bool):cL d z=some (if qOk d z=true then 0 else 1,()):=by
 unfold cL qOk
 rw[yE,Vl]
 by_cases hd:er d
 ·rw[Hv hd,VH hd]
  dsimp only
  rw[show ((0:Int) != 0)=false from rfl,Vw,Vl]
  cases inR d 0 1000000000 3<;>cases (d.1==0)<;>cases z<;>rfl
 ·have:inR d 0 1000000000 3=false:=by unfold inR;simp[hd]
  simp[hd,this]
end Go.Md
namespace Go.Md
open Go.Dn
theorem HZ (l:List aa) (t:List UInt8) (hl:l.length<1000000000) (hs:Asc (·.1) l):
 ∃ i:Nat,cn l t ()=some ((i:Int),(dn (·.1) t l).isSome,())∧∀ k,dn (·.1) t l=some k→i=k:=by
 unfold cn
 have loop:∀ f,l.length<f→∃ i:Nat,iter f ((l,t,(),(l.length:Int),(0:Int),(l.length:Int),()):bM) dx=some (Sum.inr (l,t,(),(l.length:Int),(i:Int),()))∧i≤l.length∧(∀ k x,l[k]? =some x→k<i→Op.bytesLess x.1 t=true)∧∀ k x,l[k]? =some x→i≤k→Op.bytesLess x.1 t=false:=by
  intro f hf
  refine vz (Inv:=fun X=>∃ i j:Nat,X=((l,t,(),(l.length:Int),(i:Int),(j:Int),()):bM)∧i≤j∧j≤l.length∧(∀ k x,l[k]? =some x→k<i→Op.bytesLess x.1 t=true)∧∀ k x,l[k]? =some x→j≤k→Op.bytesLess x.1 t=false)
   (fun X=>(X.2.2.2.2.2.1 - X.2.2.2.2.1).toNat)
   (fun _ r=>∃ i:Nat,r=some (Sum.inr (l,t,(),(l.length:Int),(i:Int),()))∧i≤l.length∧(∀ k x,l[k]? =some x→k<i→Op.bytesLess x.1 t=true)∧∀ k x,l[k]? =some x→i≤k→Op.bytesLess x.1 t=false) ?_ f _ ⟨0,l.length,rfl,by omega,by omega,fun _ _ _ h=>absurd h (Vd _),fun k x hk hle=>by have:=(TU.1 hk).1;omega⟩ (by dsimp only;omega)
  rintro _ again ⟨i,j,rfl,hij,hj,h1,h2⟩ ih
  dsimp only at ih
  unfold dx
  dsimp only
  by_cases hlt:i<j
  ·rw[aO (by omega)]
   have em:w64 (Int.fdiv (bK (w64 ((i:Int)+(j:Int)))) (2 ^ 1))=(((i+j) / 2:Nat):Int):=by
    rw[aR (n:=(i:Int)+(j:Int)) (by omega) (by omega),cK (by omega) (by omega),Th _ (by omega),aR (by omega) (by omega)]
    omega
   rw[em]
   have hm:(i+j) / 2<l.length:=by omega
   have hy:l[(i+j) / 2]? =some l[(i+j) / 2]:=aI hm
   have hmi:i≤(i+j) / 2∧(i+j) / 2<j:=by omega
   generalize (i+j) / 2=m at*
   generalize l[m]=y at hy
   rw[bL,hy,Vl]
   show ∃ i,Option.bind (Option.bind (some (Lib.compareBytes y.1 t,())) fun r1=>some (r1.1,())) _=_∧_
   rw[Vl,Vl]
   dsimp only
   by_cases hc:Lib.compareBytes y.1 t<0
   ·rw[aO hc,aR (by omega) (by omega)]
    refine ih _ ⟨m+1,j,rfl,by omega,hj,fun k x hk hkm=> ?_,h2⟩ (by dsimp only;omega)
    rcases U6.1 hkm with h | h
    ·have:=hs k m x y h hk hy
     exact jI this (tU.1 hc)
    ·subst h;rw[hy] at hk;cases hk;exact tU.1 hc
   ·rw[aX hc]
    refine ih _ ⟨i,m,rfl,by omega,by omega,h1,fun k x hk hkm=> ?_⟩ (by dsimp only;omega)
    have hc':Op.bytesLess y.1 t=false:=by
     cases h:Op.bytesLess y.1 t with
     | false=>rfl
     | true=>exact absurd (tU.2 h) hc
    rcases Nat.lt_or_eq_of_le hkm with h | h
    ·cases hx:Op.bytesLess x.1 t with
     | false=>rfl
     | true=>rw[jI (hs m k y x h hy hk) hx] at hc';cases hc'
    ·subst h;rw[hy] at hk;cases hk;exact hc'
  ·rw[aX (by omega)]
   have:i=j:=by omega
   subst this
   exact⟨i,rfl,hj,h1,h2⟩
 obtain⟨i,h1,h2,h3,h4⟩:=loop (List.length l+(List.length t+(Int.natAbs ((List.length l:Int))+(Int.natAbs (0:Int)+(Int.natAbs ((List.length l:Int))+2))))) (by omega)
 refine⟨i, ?_,fun k hk=> ?_⟩
 ·rw[h1,aZ]
  dsimp only
  by_cases hi:i<l.length
  ·have hy:l[i]? =some l[i]:=aI hi
   generalize l[i]=y at hy
   rw[aO (by omega),bL,hy,Vl]
   show Option.bind (Option.bind (some (Lib.compareBytes y.1 t,())) fun r1=>some (r1.1,())) _=_
   rw[Vl,Vl]
   congr 3
   by_cases he:y.1=t
   ·rw[M3 hs hy he,oQ.2 he];rfl
   ·have hne:¬ Lib.compareBytes y.1 t=0:=fun h=>he (oQ.1 h)
    rw[show (Lib.compareBytes y.1 t==0)=false by simpa using hne]
    cases hx:dn (·.1) t l with
    | none=>rfl
    | some k=>
     exfalso
     obtain⟨x,k1,k2⟩:=ff hx
     rcases U8 k i with h | h | h
     ·have:=h3 k x k1 h;rw[k2,fD] at this;cases this
     ·subst h;rw[hy] at k1;cases k1;exact he k2
     ·have:=hs i k y x h hy k1
      dsimp only at this
      rw[k2,h4 i y hy (U0 _)] at this;cases this
  ·rw[aX (by omega)]
   congr 3
   cases hx:dn (·.1) t l with
   | none=>rfl
   | some k=>
    exfalso
    obtain⟨x,k1,k2⟩:=ff hx
    have:=h3 k x k1 (by have:=(TU.1 k1).1;omega)
    rw[k2,fD] at this;cases this
 ·obtain⟨x,k1,k2⟩:=ff hk
  rcases U8 k i with h | h | h
  ·have:=h3 k x k1 h;rw[k2,fD] at this;cases this
  ·exact h.symm
  ·have hy:l[i]? =some (l[i]'(by have:=(TU.1 k1).1;omega)):=aI _
   have:=hs i k _ x h hy k1
   dsimp only at this
   rw[k2,h4 i _ hy (U0 _)] at this;cases this
theorem b7 (a:ak) (t:List UInt8) (hl:a.2.2.2.length<1000000000) (hs:Asc (·.1) a.2.2.2):
 ∃ i:Nat,b9 a t=some ((i:Int),(dn (·.1) t a.2.2.2).isSome,())∧∀ k,dn (·.1) t a.2.2.2=some k→i=k:=by
 obtain⟨i,h1,h2⟩:=HZ a.2.2.2 t hl hs
 exact⟨i,by unfold b9;rw[h1,Vl],h2⟩
def CF (a b:ah):Int:=eA (fun _ y=>y) 0 [Lib.compareBytes a.1 b.1,Lib.compareBytes a.2.1 b.2.1,Lib.compareBytes a.2.2.1 b.2.2.1]
theorem OC (l:List Int) (hl:l.length<1000):wV l=some (eA (fun _ y=>y) 0 l,()):=by
 unfold wV
 rw[pW (f:=q8) (fun i=>(((0:Int),l,(l.length:Int),(i:Int),()):q9)) l (fun _ y=>y) (0,()) ?_ ?_ ?_ _ ?_]
 ·exact (RX _ _ _ 0 rfl).trans (by
   by_cases h:eA (fun _ y=>y) 0 l=0
   ·rw[VG (by simpa using h),h]
   ·rw[VH h])
 ·rfl
 ·intro i y again hy
  have hi:=(TU.1 hy).1
  unfold q8
  dsimp only
  rw[aO (by omega),bL,hy,Vl,aR (by omega) (by omega)]
  by_cases h:y=0
  ·subst h;rfl
  ·rw[show (y != 0)=true by simpa using h,Vx,VG h]
 ·intro again
  unfold q8
  dsimp only
  rw[aX (by omega)]
 ·omega
theorem jC (a b:ah):dw a b=some (CF a b,()):=by
 unfold dw strings_Compare CF
 simp only[Vl]
 rw[OC _ (by simp),Vl]
def KC (l:List ah) (i:Nat) (y:ah):Bool:=match i with
 | 0=>false
 | i+1=>match l[i]? with
  | some p=>decide (CF p y≥0)
  | none=>false
def DP (l:List ah) (i:Nat) (c:ah):Int:=
 if oT c.1=false then 5 else if oT c.2.1=false then 5 else if (!(c.2.2.1==[])&& !oT c.2.2.1)=true then 5
 else if KC l i c=true then 8 else if qOk c.2.2.2 false=true then 0 else 1
def vg (l:List ah):Int:=if 100<l.length then 2 else eA (DP l) 0 l
theorem JJ {α:Type} {l:List α} {i:Nat} (hi:i<l.length) (hl:l.length<1000000000):idx l (w64 (((i+1:Nat):Int) - 1))=l[i]? :=by
 rw[aR (by omega) (by omega),show ((i+1:Nat):Int) - 1=((i:Nat):Int) by omega,bL]
theorem yQ (l:List ah):gB l=some (vg l,()):=by
 unfold gB vg
 by_cases hb:100<l.length
 ·rw[aO (by omega),VH hb]
 ·rw[aX (by omega),VG hb]
  rw[pW (f:=gW) (fun i=>((l,l,(l.length:Int),(i:Int),()):gX)) l (DP l) () ?_ ?_ ?_ _ ?_]
  ·exact QG _ _
  ·rfl
  ·intro i y again hy
   have hi:=(TU.1 hy).1
   unfold gW
   dsimp only
   rw[aO (by omega),bL,hy,Vl]
   simp only[BQ,Vl,qN,jC]
   have hw:w64 ((i:Int)+1)=((i+1:Nat):Int):=by rw[aR (by omega) (by omega)];omega
   rw[hw]
   unfold DP
   generalize qOk y.2.2.2 false=q
   cases i with
   | zero=>
    simp only[KC]
    cases oT y.1<;>cases oT y.2.1<;>cases (y.2.2.1==[])<;>cases oT y.2.2.1<;>cases q<;>simp
   | succ i=>
    have hp:l[i]? =some (l[i]'(by omega)):=aI (by omega)
    have ep:KC l (i+1) y=decide (CF (l[i]'(by omega)) y≥0):=by simp only[KC,hp]
    have hpos:decide (((i+1:Nat):Int)>0)=true:=by simp
    rw[JJ (by omega) (by omega),hp,ep,hpos]
    simp only[Vl,Vx]
    generalize decide (CF (l[i]'(by omega)) y≥0)=p
    cases oT y.1<;>cases oT y.2.1<;>cases (y.2.2.1==[])<;>cases oT y.2.2.1<;>cases q<;>cases p<;>simp
  ·intro again
   unfold gW
   dsimp only
   rw[aX (by omega)]
  ·omega
def D3 (l:List aa) (i:Nat) (y:aa):Bool:=match i with
 | 0=>false
 | i+1=>match l[i]? with
  | some p=>Op.bytesLess y.1 p.1||y.1==p.1
  | none=>false
def kC (l:List aa) (i:Nat) (p:aa):Int:=
 if lbl p.1=false then 3 else if D3 l i p=true then 8 else if qOk p.2.2.1 true=false then 1 else vg p.2.2.2
theorem Ar (l:List aa) (i:Nat) (y:aa) (hy:l[i]? =some y) (hl:l.length<1000000000) (hs:y.1.length≤9223372036854775807):lE l (i:Int)=some (kC l i y,()):=by
 have hi:=(TU.1 hy).1
 unfold lE kC
 rw[bL,hy,Vl,EJ _ hs]
 simp only[Vl,qN,yQ]
 cases i with
 | zero=>
  simp only[D3]
  cases lbl y.1<;>cases qOk y.2.2.1 true<;>simp
 | succ i=>
  have hp:l[i]? =some (l[i]'(by omega)):=aI (by omega)
  have ep:D3 l (i+1) y=(Op.bytesLess y.1 (l[i]'(by omega)).1||y.1==(l[i]'(by omega)).1):=by simp only[D3,hp]
  have hpos:decide (((i+1:Nat):Int)>0)=true:=by simp
  rw[JJ (by omega) hl,hp,ep,hpos]
  simp only[Vl,Vx]
  generalize (Op.bytesLess y.1 (l[i]'(by omega)).1||y.1==(l[i]'(by omega)).1)=p
  cases lbl y.1<;>cases qOk y.2.2.1 true<;>cases p<;>simp
end Go.Md
namespace Go.Md
open Go.Dn
def par (l:List aa) (k:Nat):Option Nat:=match l[k]? with
 | some p=>if p.2.1=[] then none else dn (·.1) p.2.1 l
 | none=>none
theorem HA {l:List aa} {k k':Nat} (h:par l k=some k'):k'<l.length:=by
 unfold par at h
 split at h
 ·split at h
  ·cases h
  ·obtain⟨x,hx,_⟩:=ff h
   exact (TU.1 hx).1
 ·cases h
def Kr (l:List aa):Prop:=∀ p∈l,p.2.1=[]∨(dn (·.1) p.2.1 l).isSome=true
theorem D2 {l:List aa} {k:Nat} {p:aa} (h1:Kr l) (hp:l[k]? =some p):(p.2.1=[]∧par l k=none)∨(p.2.1≠[]∧∃ k',par l k=some k'∧dn (·.1) p.2.1 l=some k'):=by
 unfold par
 rw[hp]
 dsimp only
 by_cases h:p.2.1=[]
 ·exact .inl ⟨h,by rw[VH h]⟩
 ·right
  rw[VG h]
  rcases h1 p (Uq hp) with h2 | h2
  ·exact absurd h2 h
  ·obtain⟨k',hk'⟩:=Vo.1 h2
   exact⟨h,k',hk',hk'⟩
def sJ (l:List aa):Prop:=∀ k,k<l.length→¬ nH (par l) k
def fA (l:List aa) (i:Nat):List Nat:=anc (par l) l.length i
theorem AL {l:List aa} (h:sJ l) {i:Nat} (hi:i<l.length):(fA l i).length<l.length:=QI (fun _ _=>HA) h hi
theorem u7 {l:List aa} (h:sJ l) {i k:Nat} (hi:i<l.length) (hp:par l i=some k):fA l i=k::fA l k:=by
 have h1:=AL h hi
 unfold fA at*
 rw[← Jj h1 (show l.length≤l.length+1 by omega),oN hp]
theorem Ji {l:List aa} {i:Nat} (hp:par l i=none):fA l i=[]:=xF hp _
theorem MU {l:List aa} {i x:Nat} (h:x∈fA l i):x<l.length:=KN (fun _ _=>HA) h
theorem AM {l:List aa} (h:sJ l) {i:Nat} (hi:i<l.length):(i::fA l i).Nodup:=Co (fun _ _=>HA) h hi
def cI (l:List Nat):List Int:=l.map (fun n:Nat=>(n:Int))
theorem Ox {l:List Nat} {x:Nat}:(x:Int)∈cI l↔x∈l:=by
 unfold cI
 rw[Up]
 constructor
 ·rintro⟨a,h1,h2⟩;have:a=x:=by omega
  exact this ▸ h1
 ·intro h;exact⟨x,h,rfl⟩
theorem oO (l:List Nat):(cI l).length=l.length:=by simp[cI]
theorem yc (a:ak) (hl:a.2.2.2.length≤500) (hs:Asc (·.1) a.2.2.2) (h1:Kr a.2.2.2) (i:Nat) (hi:i<a.2.2.2.length):
 ∃ (out:List Nat) (ok:Bool),gO a (i:Int)=some (cI out,ok,())∧(ok=false↔nH (par a.2.2.2) i)∧(sJ a.2.2.2→out=fA a.2.2.2 i):=by
 unfold gO
 have hat:=fun t=>b7 a t (by omega) hs
 obtain⟨a1,a2,a3,l⟩:=a
 dsimp only at*
 have loop:∀ f,l.length+1<f→∃ (out:List Nat) (ok:Bool),(iter f (((i:Int),([]:List Int),(i:Int),a1,a2,a3,l,()):iu) nj=(if ok=true then (some (Sum.inr (cI out,())):Option fS) else some (Sum.inl (cI out,false,())))∨(ok=true∧iter f (((i:Int),([]:List Int),(i:Int),a1,a2,a3,l,()):iu) nj=(some (Sum.inl (cI out,true,())):Option fS)))∧(ok=false↔nH (par l) i)∧(sJ l→out=fA l i):=by
  intro f hf
  refine vz (Inv:=fun X=>∃ (out:List Nat) (k:Nat),X=(((i:Int),cI out,(k:Int),a1,a2,a3,l,()):iu)∧k<l.length∧out.Nodup∧(∀ x∈out,x<l.length)∧(∃ j,itp (par l) j i=some k)∧(nH (par l) i→∃ d,rC (par l) i k d∧∀ x∈out,∃ e,d≤e∧rC (par l) i x e)∧(sJ l→out++fA l k=fA l i))
   (fun X=>l.length+1 - X.2.1.length)
   (fun _ r=>∃ (out:List Nat) (ok:Bool),(r=(if ok=true then (some (Sum.inr (cI out,())):Option fS) else some (Sum.inl (cI out,false,())))∨(ok=true∧r=(some (Sum.inl (cI out,true,())):Option fS)))∧(ok=false↔nH (par l) i)∧(sJ l→out=fA l i)) ?_ f _
   ⟨[],i,rfl,hi,by simp,by simp,⟨0,rfl⟩,fun hon=>by obtain⟨d,hd⟩:=hon.Sk;exact⟨d,hd,by simp⟩,fun _=>by simp⟩ (by dsimp only;simp;omega)
  rintro _ again ⟨out,k,rfl,hk,hnd,hlt,⟨j,hj⟩,hon,hno⟩ ih
  dsimp only at ih
  have hlen:=vD l.length out hnd hlt
  unfold nj
  dsimp only
  have hy:l[k]? =some l[k]:=aI hk
  generalize l[k]=p at hy
  rw[bL,hy,Vl,Vl]
  rcases D2 h1 hy with ⟨g1,g2⟩ | ⟨g1,k',g2,g3⟩
  ·rw[g1]
   refine⟨out,true,.inl rfl, ?_,fun hn=> ?_⟩
   ·constructor
    ·intro h;cases h
    ·intro h
     obtain⟨d,hd,_⟩:=hon h
     obtain⟨k',e,_⟩:=hd.step
     rw[g2] at e;cases e
   ·have:=hno hn
    rw[Ji g2,Tv] at this
    exact this
  ·have hk':=HA g2
   rw[show (!(p.2.1==[]))=true by cases hp:p.2.1<;>simp_all,Vx]
   obtain⟨q,hq1,hq2⟩:=hat p.2.1
   have:q=k':=hq2 k' g3
   subst this
   rw[hq1,Vl]
   dsimp only
   by_cases e1:q=i
   ·subst e1
    rw[show ((q:Int)==(q:Int))=true by simp,Vx]
    have hloop:nH (par l) q:=⟨j,by rw[ID (b:=1) hj];simp[itp,g2]⟩
    exact⟨[],false,.inl rfl,⟨fun _=>hloop,fun _=>rfl⟩,fun hn=>absurd hloop (hn q hi)⟩
   ·rw[show ((q:Int)==(i:Int))=false by rw[Vt];omega,Vw,qQ _ _ (by rw[oO];omega),Vl]
    by_cases e2:q∈out
    ·rw[VA (Ox.2 e2),Vx]
     refine⟨out,true,.inr ⟨rfl,rfl⟩,⟨fun h=>(by cases h),fun h=> ?_⟩,fun hn=> ?_⟩
     ·obtain⟨d,hd,hx⟩:=hon h
      obtain⟨k2,e,h2⟩:=hd.step
      rw[g2] at e;cases e
      rcases h2 with ⟨h2,_⟩ | ⟨_,e,he,h3⟩
      ·exact absurd h2 e1
      ·obtain⟨f',hf',hx'⟩:=hx q e2
       have:=h3.uniq hx'
       omega
     ·exfalso
      have h3:=hno hn
      have h4:=(Uy.1 (AM hn hi)).2
      rw[← h3,u7 hn hk g2,List.nodup_append] at h4
      exact h4.2.2 q e2 q (by simp) rfl
    ·rw[Vy (fun h=>e2 (Ox.1 h)),Vw,bz (tT (by rw[oO];omega) (by rw[oO];omega))]
     refine ih _ ⟨out++[q],q,by simp[cI],hk', ?_, ?_,⟨j+1, ?_⟩,fun h=> ?_,fun hn=> ?_⟩ (by simp[oO];omega)
     ·rw[List.nodup_append]
      exact⟨hnd,by simp,fun x hx y hy=>by simp at hy;subst hy;exact fun e=>e2 (e ▸ hx)⟩
     ·intro x hx
      rcases Uh.1 hx with hx | hx
      ·exact hlt x hx
      ·simp at hx;omega
     ·rw[ID (b:=1) hj];simp[itp,g2]
     ·obtain⟨d,hd,hx⟩:=hon h
      obtain⟨k2,e,h2⟩:=hd.step
      rw[g2] at e;cases e
      rcases h2 with ⟨h2,_⟩ | ⟨_,e,he,h3⟩
      ·exact absurd h2 e1
      ·refine⟨e,h3,fun x hx2=> ?_⟩
       rcases Uh.1 hx2 with hx2 | hx2
       ·obtain⟨f',hf',hx'⟩:=hx x hx2;exact⟨f',by omega,hx'⟩
       ·simp at hx2;subst hx2;exact⟨e,U0 _,h3⟩
     ·rw[← hno hn,u7 hn hk g2,Tu];rfl
 obtain⟨out,ok,h2,h3,h4⟩:=loop (Int.natAbs (i:Int)+(List.length ([]:List Int)+(Int.natAbs (i:Int)+(List.length a1+(List.length a2+(Int.natAbs a3+(List.length l+2))))))) (by omega)
 refine⟨out,ok, ?_,h3,h4⟩
 rcases h2 with h2 | ⟨h5,h2⟩
 ·rw[h2]
  cases ok<;>rfl
 ·rw[h2,h5];rfl
end Go.Md
namespace Go.Md
open Go.Dn
def n1 (l:List aa) (p:aa):Int:=if p.2.1≠[]∧(dn (·.1) p.2.1 l).isSome=false then 9 else 0
open Classical in
noncomputable def n2 (l:List aa) (i:Nat):Int:=if nH (par l) i then 17 else 0
def n3 (l:List aa) (i:Nat):Int:=if 5<(fA l i).length then 2 else 0
def LI (l:List aa):Int:=eA (fun _ p=>n1 l p) 0 l
noncomputable def LJ (l:List aa):Int:=eA (fun i _=>n2 l i) 0 l
def RJ (l:List aa):Int:=eA (fun i _=>n3 l i) 0 l
noncomputable def Kz (l:List aa):Int:=if LI l≠0 then LI l else if LJ l≠0 then LJ l else RJ l
theorem EY {l:List aa} (h:LI l=0):Kr l:=by
 intro p hp
 obtain⟨i,hi⟩:=Uo.1 hp
 have:=eU h i p hi
 unfold n1 at this
 by_cases h1:p.2.1=[]
 ·exact .inl h1
 ·cases h2:(dn (fun x:aa=>x.1) p.2.1 l).isSome with
  | true=>exact .inr rfl
  | false=>rw[VH ⟨h1,h2⟩] at this;omega
theorem EZ {l:List aa} (h:LJ l=0):sJ l:=by
 intro k hk hon
 have:=eU h k l[k] (aI hk)
 unfold n2 at this
 rw[Vj,VH hon] at this
 omega
theorem L5 {γ:Type} (s:Int) (u:γ) (k:γ→Option (Int×Unit)) (z:Int) (hk:s=0→k u=some (z,())):bu (β:=Int×Unit) (γ:=γ) (if s=0 then some (Sum.inr u) else some (Sum.inl (s,()))) k=some (if s≠0 then s else z,()):=by
 by_cases h:s=0
 ·rw[VH h,aZ,hk h,VG (by simpa using h)]
 ·rw[VG h,oU,VH h]
theorem RY {γ:Type} (s:Int) (u:γ):bu (β:=Int×Unit) (γ:=γ) (if s=0 then some (Sum.inr u) else some (Sum.inl (s,()))) (fun _=>some (0,()))=some (s,()):=QG s u
theorem Cf (a:ak) (hl:a.2.2.2.length≤500) (hs:Asc (·.1) a.2.2.2):nk a=some (Kz a.2.2.2,()):=by
 unfold nk Kz
 have hat:=fun t=>b7 a t (by omega) hs
 have har:=fun h1 i hi=>yc a hl hs h1 i hi
 obtain⟨a1,a2,a3,l⟩:=a
 dsimp only at*
 rw[pW (f:=kD) (fun i=>((l,(l.length:Int),(i:Int),a1,a2,a3,l,()):kF)) l (fun _ p=>n1 l p) (a1,a2,a3,l,()) ?_ ?_ ?_ _ ?_]
 ·refine L5 _ _ _ _ fun z1=> ?_
  have h1:=EY z1
  dsimp only
  rw[pW (f:=kE) (fun i=>(((l.length:Int),(i:Int),a1,a2,a3,l,()):kG)) l (fun i _=>n2 l i) (a1,a2,a3,l,()) ?_ ?_ ?_ _ ?_]
  ·refine L5 _ _ _ _ fun z2=> ?_
   have h2:=EZ z2
   dsimp only
   rw[pW (f:=jE) (fun i=>(((l.length:Int),(i:Int),a1,a2,a3,l,()):jF)) l (fun i _=>n3 l i) () ?_ ?_ ?_ _ ?_]
   ·exact RY _ _
   ·rfl
   ·intro i y again hy
    have hi:=(TU.1 hy).1
    unfold jE
    dsimp only
    obtain⟨out,ok,g1,g2,g3⟩:=har h1 i hi
    rw[aO (by omega),g1,Vl,aR (by omega) (by omega)]
    dsimp only
    rw[g3 h2,oO]
    unfold n3
    by_cases h5:5<(fA l i).length
    ·rw[aO (by omega),VH h5,VG (by omega)]
    ·rw[aX (by omega),VG h5,VH rfl];rfl
   ·intro again
    unfold jE
    dsimp only
    rw[aX (by omega)]
   ·omega
  ·rfl
  ·intro i y again hy
   have hi:=(TU.1 hy).1
   unfold kE
   dsimp only
   obtain⟨out,ok,g1,g2,g3⟩:=har h1 i hi
   rw[aO (by omega),g1,Vl,aR (by omega) (by omega)]
   dsimp only
   unfold n2
   by_cases hon:nH (par l) i
   ·rw[g2.2 hon,VH hon,VG (by omega)];rfl
   ·have:ok=true:=by
     cases ok with
     | true=>rfl
     | false=>exact absurd (g2.1 rfl) hon
    rw[this,VG hon,VH rfl];rfl
  ·intro again
   unfold kE
   dsimp only
   rw[aX (by omega)]
  ·omega
 ·rfl
 ·intro i y again hy
  have hi:=(TU.1 hy).1
  unfold kD
  dsimp only
  obtain⟨q,hq1,hq2⟩:=hat y.2.1
  rw[aO (by omega),bL,hy,Vl,hq1,Vl,aR (by omega) (by omega)]
  dsimp only
  by_cases e1:y.2.1=[]
  ·have hn:n1 l y=0:=by unfold n1;rw[VG (fun h=>h.1 e1)]
   rw[hn,VH rfl,e1];rfl
  ·rw[show (!(y.2.1==[]))=true by cases hp:y.2.1<;>simp_all,Vx]
   cases h2:(dn (fun x:aa=>x.1) y.2.1 l).isSome with
   | true=>
    have hn:n1 l y=0:=by unfold n1;rw[VG (fun h=>by rw[h2] at h;exact absurd h.2 (by simp))]
    rw[hn,VH rfl];rfl
   | false=>
    have hn:n1 l y=9:=by unfold n1;rw[VH ⟨e1,h2⟩]
    rw[hn,VG (by omega)];rfl
 ·intro again
  unfold kD
  dsimp only
  rw[aX (by omega)]
 ·omega
noncomputable def cm (a:ak):Int:=
 if oT a.1=false then 5 else if oT a.2.1=false then 5 else if ¬(1≤a.2.2.1∧a.2.2.1≤3652059) then 1
 else if 500<a.2.2.2.length then 2 else if eA (kC a.2.2.2) 0 a.2.2.2≠0 then eA (kC a.2.2.2) 0 a.2.2.2 else Kz a.2.2.2
theorem Cy {l:List aa} (h:eA (kC l) 0 l=0):Asc (·.1) l:=by
 have step:∀ i x y,l[i]? =some x→l[i+1]? =some y→Op.bytesLess x.1 y.1=true:=fun i x y hx hy=>by
  have:=eU h (i+1) y hy
  rw[Vj] at this
  unfold kC at this
  split at this
  ·omega
  ·split at this
   ·omega
   ·rename_i h2
    have h3:D3 l (i+1) y=false:=by simpa using h2
    simp only[D3,hx,Te,Vt] at h3
    rcases CA x.1 y.1 with h1 | h1 | h1
    ·exact h1
    ·exact absurd h1.symm h3.2
    ·rw[h3.1] at h1;cases h1
 intro i j x y hij hx hy
 induction j generalizing y with
 | zero=>omega
 | succ j ih=>
  rcases U6.1 hij with h1 | h1
  ·have hj:j<l.length:=by have:=(TU.1 hy).1;omega
   have hz:l[j]? =some l[j]:=aI hj
   exact jI (ih _ h1 hz) (step j _ y hz hy)
  ·subst h1;exact step i x y hx hy
def oM (a:ak):Prop:=∀ p∈a.2.2.2,p.1.length≤9223372036854775807
theorem eo (a:ak) (hf:oM a):b6 a=some (cm a,()):=by
 unfold b6 cm
 simp only[BQ,LA,Vl]
 cases oT a.1 with
 | false=>rfl
 | true=>
 cases oT a.2.1 with
 | false=>rfl
 | true=>
 simp only[Td,Vw,Bool.true_eq_false,VF]
 by_cases n_c1:¬(1≤a.2.2.1∧a.2.2.1≤3652059)
 ·rw[Vy n_c1,VH n_c1];rfl
 have c1:=Decidable.of_not_not n_c1
 rw[VA c1,VG (by simpa using c1),Td,Vw]
 by_cases c2:500<a.2.2.2.length
 ·rw[aO (by omega),VH c2]
 rw[aX (by omega),VG c2]
 obtain⟨a1,a2,a3,l⟩:=a
 dsimp only at*
 rw[pW (f:=iS) (fun i=>(((l.length:Int),(i:Int),a1,a2,a3,l,()):iT)) l (kC l) (a1,a2,a3,l,()) ?_ ?_ ?_ _ ?_]
 ·refine L5 _ _ _ _ fun z=> ?_
  dsimp only
  rw[Cf (a1,a2,a3,l) (by dsimp only;omega) (Cy z),Vl]
 ·rfl
 ·intro i y again hy
  have hi:=(TU.1 hy).1
  unfold iS
  dsimp only
  rw[aO (by omega),Ar l i y hy (by omega) (hf y (Uq hy)),Vl,aR (by omega) (by omega)]
  dsimp only
  by_cases hz:kC l i y=0
  ·rw[hz];rfl
  ·rw[show (kC l i y != 0)=true by simpa using hz,Vx,VG hz]
 ·intro again
  unfold iS
  dsimp only
  rw[aX (by omega)]
 ·omega
end Go.Md
namespace Go.Md
open Go.Dn
theorem ym (l:List (List UInt8)) (hl:l.length<1000000):iV l=some (l.reverse,()):=by
 unfold iV
 rw[aR (n:=(l.length:Int) - 1) (by omega) (by omega)]
 have loop:∀ f,l.length<f→iter f (((0:Int),(l.length:Int) - 1,l,()):eL) gE=some (Sum.inr (l.reverse,())):=by
  intro f hf
  refine cN (Inv:=fun c X=>∃ s:List (List UInt8),X=(((c:Int),(l.length:Int) - 1 - c,s,()):eL)∧s.length=l.length∧∀ k,k<l.length→s[k]? =if k<c∨l.length≤k+c then l[l.length - 1 - k]? else l[k]?) (l.length / 2)
   (fun r=>r=some (Sum.inr (l.reverse,()))) ?_ ?_ f 0 _ ⟨l, ?_,rfl,fun k hk=>by rw[VG (by omega)]⟩ (by omega) (by omega)
  ·rintro c _ again hc ⟨s,rfl,h1,h2⟩ ih
   unfold gE
   dsimp only
   have hj:(l.length:Int) - 1 - c=((l.length - 1 - c:Nat):Int):=by omega
   have hy2:s[l.length - 1 - c]? =some (s[l.length - 1 - c]'(by omega)):=aI (by omega)
   have hy3:s[c]? =some (s[c]'(by omega)):=aI (by omega)
   have v2:=h2 (l.length - 1 - c) (by omega)
   have v3:=h2 c (by omega)
   rw[VG (by omega)] at v2 v3
   rw[hy2] at v2
   rw[hy3] at v3
   generalize s[l.length - 1 - c]'(by omega)=y2 at hy2 v2
   generalize s[c]'(by omega)=y3 at hy3 v3
   rw[aO (by omega),hj,bz (by simp only[SX,VB];omega),To,hy2,Vl,bz (by simp only[SX,VB];omega),To,hy3,Vl,bz (by simp only[SX,VB];omega),Vl,
    bz (by simp only[SX,VB,Uc];omega),TY (by omega),hy2,Vl,aR (by omega) (by omega),aR (by omega) (by omega)]
   refine ih _ ⟨(s.set c y2).set (l.length - 1 - c) y3, ?_,by simp[h1],fun k hk=> ?_⟩
   ·rw[show ((l.length - 1 - c:Nat):Int) - 1=(l.length:Int) - 1 - ((c+1:Nat):Int) by omega];rfl
   ·rw[TX]
    by_cases e1:l.length - 1 - c=k
    ·rw[VH e1,VH (by simp;omega),VH (by omega),v3,show l.length - 1 - k=c by omega]
    ·rw[VG e1,TX]
     by_cases e2:c=k
     ·subst e2
      rw[VH rfl,VH (by omega),VH (by omega),v2]
     ·rw[VG e2,h2 k hk]
      by_cases e3:k<c∨l.length≤k+c
      ·rw[VH e3,VH (by omega)]
      ·rw[VG e3,VG (by omega)]
  ·rintro _ again ⟨s,rfl,h1,h2⟩
   unfold gE
   dsimp only
   rw[aX (by omega)]
   congr 2
   have:s=l.reverse:=by
    apply TJ
    intro k
    by_cases hk:k<l.length
    ·rw[h2 k hk,List.getElem?_reverse hk]
     by_cases e:k<l.length / 2∨l.length≤k+l.length / 2
     ·rw[VH e]
     ·rw[VG e,show l.length - 1 - k=k by omega]
    ·rw[TT (by omega),TT (by simp;omega)]
   rw[this]
  ·rw[show (l.length:Int) - 1 - ((0:Nat):Int)=(l.length:Int) - 1 by omega];rfl
 rw[loop _ (by omega),aZ]
structure Gc (a:ak):Prop where
 len:a.2.2.2.length≤500
 asc:Asc (·.1) a.2.2.2
 n1:Kr a.2.2.2
 nl:sJ a.2.2.2
theorem gM {a:ak} (h:cm a=0):Gc a:=by
 unfold cm at h
 split at h
 ·omega
 split at h
 ·omega
 split at h
 ·omega
 split at h
 ·omega
 split at h
 ·omega
 rename_i h1 h2
 have h3:eA (kC a.2.2.2) 0 a.2.2.2=0:=by omega
 unfold Kz at h
 split at h
 ·omega
 rename_i h4
 split at h
 ·omega
 rename_i h5
 exact⟨by omega,Cy h3,EY (by omega),EZ (by omega)⟩
def lab (l:List aa) (i:Nat):List UInt8:=((l[i]?).map (·.1)).getD []
theorem xo {l:List aa} {i:Nat} {p:aa} (h:l[i]? =some p):lab l i=p.1:=by unfold lab;rw[h];rfl
theorem LB {l:List aa} (hs:Asc (·.1) l) {t:List UInt8} {T i:Nat} (hT:dn (·.1) t l=some T) (hi:i<l.length):lab l i=t↔i=T:=by
 have hp:l[i]? =some l[i]:=aI hi
 rw[xo hp]
 constructor
 ·intro h
  have:=M3 hs hp h
  rw[hT] at this;cases this;rfl
 ·rintro rfl
  obtain⟨x,h1,h2⟩:=ff hT
  rw[hp] at h1;cases h1;exact h2
theorem jD (a:ak) (hf:oM a) (t:List UInt8):cR a t false=some (if cm a≠0 then cm a else if (dn (·.1) t a.2.2.2).isSome=true then 0 else 9,()):=by
 unfold cR
 rw[eo a hf,Vl]
 dsimp only
 by_cases h:cm a=0
 ·have hok:=gM h
  have:=hok.len
  obtain⟨q,h1,h2⟩:=b7 a t (by omega) hok.asc
  rw[h,show ((0:Int) != 0)=false from rfl,Vw,h1,Vl,VG (by simp)]
  cases (dn (fun x:aa=>x.1) t a.2.2.2).isSome<;>rfl
 ·rw[show (cm a != 0)=true by simpa using h,Vx,VH h]
theorem Jk {a:ak} (h:Gc a) {i:Nat} (hi:i<a.2.2.2.length):gO a (i:Int)=some (cI (fA a.2.2.2 i),true,()):=by
 obtain⟨out,ok,g1,g2,g3⟩:=yc a h.len h.asc h.n1 i hi
 have:ok=true:=by
  cases ok with
  | true=>rfl
  | false=>exact absurd (g2.1 rfl) (h.nl i hi)
 rw[g1,g3 h.nl,this]
theorem o9 {a:ak} (h:Gc a) {i T:Nat} (hi:i<a.2.2.2.length) {t:List UInt8} (hT:dn (·.1) t a.2.2.2=some T):lD a (i:Int) t=some (decide (T∈fA a.2.2.2 i),()):=by
 unfold lD kN nr
 rw[Jk h hi,Vl]
 dsimp only
 have hlt:∀ x∈fA a.2.2.2 i,x<a.2.2.2.length:=fun x hx=>MU hx
 have hlen:=AL h.nl hi
 have hl:=h.len
 generalize fA a.2.2.2 i=L at*
 have loop:∀ f,L.length<f→∃ n:Int,iter f ((cI L,(a,t),((cI L).length:Int),(0:Int),()):eY) gZ=(if T∈L then some (Sum.inl (n,())) else some (Sum.inr ()))∧0≤n:=by
  intro f hf
  refine cN (Inv:=fun c X=>X=((cI L,(a,t),((cI L).length:Int),(c:Int),()):eY)∧∀ j y,j<c→L[j]? =some y→y≠T) L.length
   (fun r=>∃ n:Int,r=(if T∈L then some (Sum.inl (n,())) else some (Sum.inr ()))∧0≤n) ?_ ?_ f 0 _ ⟨rfl,fun _ _ h=>absurd h (Vd _)⟩ (by omega) (by omega)
  ·rintro c _ again hc ⟨rfl,hb⟩ ih
   unfold gZ qq
   dsimp only
   have hy:L[c]? =some L[c]:=aI hc
   have hyl:=hlt _ (T6 hc)
   generalize L[c]=y at hy hyl
   have hy':(cI L)[c]? =some (y:Int):=by unfold cI;rw[TV,hy];rfl
   have hp:a.2.2.2[y]? =some a.2.2.2[y]:=aI hyl
   rw[aO (by rw[oO];omega),bL,hy',Vl,bL,hp,Vl,Vl]
   dsimp only
   have hle:=LB h.asc hT hyl
   rw[xo hp] at hle
   by_cases he:y=T
   ·rw[show (a.2.2.2[y].1==t)=true by simpa using hle.2 he,Vx]
    exact⟨c,by rw[VH (he ▸ Uq hy)],by omega⟩
   ·rw[show (a.2.2.2[y].1==t)=false by simpa using fun e=>he (hle.1 e),Vw,aR (by omega) (by omega)]
    refine ih _ ⟨rfl,fun j z hj hz=> ?_⟩
    rcases U6.1 hj with h | h
    ·exact hb j z h hz
    ·subst h;rw[hy] at hz;cases hz;exact he
  ·rintro _ again ⟨rfl,hb⟩
   unfold gZ
   dsimp only
   rw[aX (by rw[oO];omega)]
   refine⟨0, ?_,Ti _⟩
   rw[VG]
   intro hm
   obtain⟨j,hj⟩:=Uo.1 hm
   exact hb j T (TU.1 hj).1 hj rfl
 obtain⟨n,h1,h2⟩:=loop (List.length (cI L)+(Int.natAbs ((List.length (cI L):Int))+(Int.natAbs (0:Int)+2))) (by rw[oO];omega)
 rw[h1]
 by_cases hm:T∈L
 ·rw[VH hm,oU,Vl,Vl,VA hm]
  congr 2
  exact VA h2
 ·rw[VG hm,aZ,Vl,Vl,Vy hm]
  rfl
def RN (l:List aa):Option Nat→List (List UInt8)×Int×Unit
 | some T=>(((T::fA l T).map (lab l)).reverse,0,())
 | none=>([],9,())
theorem IX (a:ak) (hf:oM a) (t:List UInt8):nZ a t=some (if cm a≠0 then ([],cm a,()) else RN a.2.2.2 (dn (·.1) t a.2.2.2)):=by
 unfold nZ
 rw[jD a hf t,Vl]
 dsimp only
 by_cases h:cm a=0
 ·have hok:=gM h
  have hl:=hok.len
  rw[VG (show ¬ (cm a≠0) by simpa using h),VG (show ¬ (cm a≠0) by simpa using h)]
  obtain⟨q,hq1,hq2⟩:=b7 a t (by omega) hok.asc
  cases hT:dn (fun x:aa=>x.1) t a.2.2.2 with
  | none=>rfl
  | some T=>
   have:q=T:=hq2 T hT
   subst this
   have hTl:q<a.2.2.2.length:=by
    obtain⟨x,hx,_⟩:=ff hT
    exact (TU.1 hx).1
   rw[Option.isSome_some,VH rfl,show ((0:Int) != 0)=false from rfl,Vw,hq1,Vl]
   dsimp only
   rw[Jk hok hTl,Vl]
   dsimp only
   have hlab:lab a.2.2.2 q=t:=(LB hok.asc hT hTl).2 rfl
   have hlt:∀ x∈fA a.2.2.2 q,x<a.2.2.2.length:=fun x hx=>MU hx
   have hlen:=AL hok.nl hTl
   have e:RN a.2.2.2 (some q)=((t::(fA a.2.2.2 q).map (lab a.2.2.2)).reverse,0,()):=by
    show ((List.map (lab a.2.2.2) (q::fA a.2.2.2 q)).reverse,(0:Int),())=_
    rw[Uf,hlab]
   rw[e]
   generalize fA a.2.2.2 q=L at*
   obtain⟨a1,a2,a3,l⟩:=a
   dsimp only at*
   have loop:∀ f,L.length<f→iter f (([t],cI L,((cI L).length:Int),(0:Int),a1,a2,a3,l,()):mC) qb=some (Sum.inr (t::L.map (lab l),())):=by
    intro f hf'
    refine cN (Inv:=fun i X=>X=((t::(L.take i).map (lab l),cI L,((cI L).length:Int),(i:Int),a1,a2,a3,l,()):mC)) L.length (fun r=>r=some (Sum.inr (t::L.map (lab l),()))) ?_ ?_ f 0 _ rfl (by omega) (by omega)
    ·rintro i _ again hi rfl ih
     unfold qb
     dsimp only
     have hy:L[i]? =some L[i]:=aI hi
     have hyl:=hlt _ (T6 hi)
     have htk:=wG hy
     generalize L[i]=y at hy hyl htk
     have hy':(cI L)[i]? =some (y:Int):=by unfold cI;rw[TV,hy];rfl
     have hp:l[y]? =some l[y]:=aI hyl
     rw[aO (by rw[oO];omega),bL,hy',Vl,bL,hp,Vl,aR (by omega) (by omega),bz (tT (by simp;omega) (by simp;omega))]
     refine ih _ ?_
     rw[htk,List.map_append,List.map_singleton,xo hp]
     rfl
    ·rintro _ again rfl
     unfold qb
     dsimp only
     rw[aX (by rw[oO];omega),UN (U0 _)]
   rw[loop _ (by rw[oO];omega),aZ]
   dsimp only
   rw[ym _ (by simp;omega),Vl]
 ·rw[VH h,VH h,show (cm a != 0)=true by simpa using h,Vx]
end Go.Md
