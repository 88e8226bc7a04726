/-
  Plain facts: parcels. No condition.
-/
import Derived.Test.YtfeonoiibclkiabGreatDoorYp
import Derived.Test.YtfeonoiibclkiabGreatDoorYr
import Derived.Test.YtfeonoiibclkiabGreatDoorYn
set_option linter.all false
namespace Go.Md
open Go.Dn
theorem xY:∀ (n:Nat) (l:List Nat),l.Nodup→(∀ x∈l,x<n)→l.length≤n
 | 0,l,_,h=>by
  cases l with
  | nil=>simp
  | cons a r=>exact absurd (h a (by simp)) (Wl _)
 | n+1,l,hd,h=>by
  by_cases hm:n∈l
  ·have h1:=xY n (l.erase n) (hd.erase n) (fun x hx=>by
    have:=(hd.mem_erase_iff).1 hx
    have:=h x this.2
    omega)
   rw[List.length_erase_of_mem hm] at h1
   omega
  ·have:=xY n l hd (fun x hx=>by
    have h2:=h x hx
    have:x≠n:=fun e=>hm (e ▸ hx)
    omega)
   omega
def itp (par:Nat→Option Nat):Nat→Nat→Option Nat
 | 0,i=>some i
 | j+1,i=>(par i).bind (itp par j)
theorem KP {par:Nat→Option Nat}:∀ {a b i k:Nat},itp par a i=some k→itp par (a+b) i=itp par b k
 | 0,b,i,k,h=>by simp only[itp,Option.some.injEq] at h;subst h;rw[Wq]
 | a+1,b,i,k,h=>by
  simp only[itp] at h
  rw[show a+1+b=(a+b)+1 by omega]
  simp only[itp]
  cases hp:par i with
  | none=>rw[hp] at h;cases h
  | some j=>rw[hp] at h;exact KP (a:=a) (by simpa using h)
def qc (par:Nat→Option Nat) (i:Nat):Prop:=∃ j,itp par (j+1) i=some i
def uK (par:Nat→Option Nat) (i k d:Nat):Prop:=itp par (d+1) k=some i∧∀ e,e<d→itp par (e+1) k≠some i
theorem uK.uniq {par:Nat→Option Nat} {i k d e:Nat} (h:uK par i k d) (h':uK par i k e):d=e:=by
 rcases Wg d e with h1 | h1 | h1
 ·exact absurd h.1 (h'.2 d h1)
 ·exact h1
 ·exact absurd h'.1 (h.2 e h1)
theorem uK.step {par:Nat→Option Nat} {i k d:Nat} (h:uK par i k d):∃ k',par k=some k'∧((k'=i∧d=0)∨(k'≠i∧∃ e,d=e+1∧uK par i k' e)):=by
 obtain⟨h1,h2⟩:=h
 simp only[itp] at h1
 cases hp:par k with
 | none=>rw[hp] at h1;cases h1
 | some k'=>
  rw[hp] at h1
  refine⟨k',rfl, ?_⟩
  cases d with
  | zero=>simp only[Wt,itp,Option.some.injEq] at h1;exact .inl ⟨h1,rfl⟩
  | succ e=>
   right
   refine⟨fun e1=> ?_,e,rfl,by simpa using h1,fun f hf hx=> ?_⟩
   ·refine h2 0 (by omega) ?_
    simp only[itp,hp,Wt,e1]
   ·refine h2 (f+1) (by omega) ?_
    rw[show f+1+1=(f+1)+1 from rfl]
    show (par k).bind (itp par (f+1))=some i
    rw[hp];exact hx
theorem qc.TW {par:Nat→Option Nat} {i:Nat} (h:qc par i):∃ d,uK par i i d:=by
 obtain⟨j,hj⟩:=h
 induction j using Nat.strongRecOn with
 | _ j ih=>
  by_cases hx:∃ e,e<j∧itp par (e+1) i=some i
  ·obtain⟨e,h1,h2⟩:=hx;exact ih e h1 h2
  ·exact⟨j,hj,fun e he h2=>hx ⟨e,he,h2⟩⟩
theorem uK.list {par:Nat→Option Nat} {i n:Nat} (hn:∀ k k',par k=some k'→k'<n):∀ {d k:Nat},k<n→uK par i k d→∃ l:List Nat,l.length=d+1∧l.Nodup∧(∀ x∈l,x<n)∧∀ x∈l,∃ e,e≤d∧uK par i x e
 | 0,k,hk,h=>⟨[k],rfl,by simp,by simpa using hk,fun x hx=>by simp at hx;subst hx;exact⟨0,V7 _,h⟩⟩
 | d+1,k,hk,h=>by
  obtain⟨k',h1,h2⟩:=h.step
  rcases h2 with ⟨_,h2⟩ | ⟨_,e,h2,h3⟩
  ·omega
  ·have:e=d:=by omega
   subst this
   obtain⟨l,l1,l2,l3,l4⟩:=uK.list hn (hn _ _ h1) h3
   refine⟨k::l,by simp[l1],VN.2 ⟨fun hm=> ?_,l2⟩,fun x hx=> ?_,fun x hx=> ?_⟩
   ·obtain⟨f,f1,f2⟩:=l4 k hm
    have:=f2.uniq h
    omega
   ·rcases VA.1 hx with rfl | hx
    ·exact hk
    ·exact l3 x hx
   ·rcases VA.1 hx with rfl | hx
    ·exact⟨e+1,V7 _,h⟩
    ·obtain⟨f,f1,f2⟩:=l4 x hx;exact⟨f,by omega,f2⟩
theorem uK.le {par:Nat→Option Nat} {i n d k:Nat} (hn:∀ k k',par k=some k'→k'<n) (hk:k<n) (h:uK par i k d):d+1≤n:=by
 obtain⟨l,l1,l2,l3,_⟩:=h.list hn hk
 have:=xY n l l2 l3
 omega
def anc (par:Nat→Option Nat):Nat→Nat→List Nat
 | 0,_=>[]
 | f+1,i=>match par i with
  | none=>[]
  | some k=>k::anc par f k
theorem wJ {par:Nat→Option Nat} {f i k:Nat} (h:par i=some k):anc par (f+1) i=k::anc par f k:=by simp[anc,h]
theorem HL {par:Nat→Option Nat} {i:Nat} (h:par i=none):∀ f,anc par f i=[]
 | 0=>rfl
 | f+1=>by simp[anc,h]
theorem OK {par:Nat→Option Nat}:∀ {f i x:Nat},x∈anc par f i→∃ j,j<f∧itp par (j+1) i=some x
 | 0,_,_,h=>by simp[anc] at h
 | f+1,i,x,h=>by
  cases hp:par i with
  | none=>simp[anc,hp] at h
  | some k=>
   rw[wJ hp] at h
   rcases VA.1 h with rfl | h
   ·exact⟨0,by omega,by simp[itp,hp]⟩
   ·obtain⟨j,h1,h2⟩:=OK h
    exact⟨j+1,by omega,by show (par i).bind (itp par (j+1))=some x;rw[hp];exact h2⟩
theorem MQ {par:Nat→Option Nat} {n:Nat} (hn:∀ k k',par k=some k'→k'<n):∀ {f i x:Nat},x∈anc par f i→x<n
 | 0,_,_,h=>by simp[anc] at h
 | f+1,i,x,h=>by
  cases hp:par i with
  | none=>simp[anc,hp] at h
  | some k=>
   rw[wJ hp] at h
   rcases VA.1 h with rfl | h
   ·exact hn _ _ hp
   ·exact MQ hn h
theorem EF {par:Nat→Option Nat} {n:Nat} (hn:∀ k k',par k=some k'→k'<n) (hl:∀ k,k<n→¬ qc par k):∀ {f i:Nat},i<n→(i::anc par f i).Nodup
 | 0,i,_=>by simp[anc]
 | f+1,i,hi=>by
  rw[VN]
  refine⟨fun hm=> ?_, ?_⟩
  ·obtain⟨j,_,hj⟩:=OK hm
   exact hl i hi ⟨j,hj⟩
  ·cases hp:par i with
   | none=>simp[anc,hp]
   | some k=>
    rw[wJ hp]
    exact EF hn hl (hn _ _ hp)
theorem Sh {par:Nat→Option Nat} {n:Nat} (hn:∀ k k',par k=some k'→k'<n) (hl:∀ k,k<n→¬ qc par k) {f i:Nat} (hi:i<n):(anc par f i).length<n:=by
 have:=xY n (i::anc par f i) (EF hn hl hi) (fun x hx=>by
  rcases VA.1 hx with rfl | hx
  ·exact hi
  ·exact MQ hn hx)
 simp at this;omega
theorem Ls {par:Nat→Option Nat}:∀ {f g i:Nat},(anc par f i).length<f→f≤g→anc par g i=anc par f i
 | 0,_,_,h,_=>by simp[anc] at h
 | f+1,g,i,h,hg=>by
  obtain⟨g,rfl⟩:∃ g',g=g'+1:=⟨g - 1,by omega⟩
  cases hp:par i with
  | none=>rw[HL hp,HL hp]
  | some k=>
   rw[wJ hp] at h ⊢
   rw[wJ hp]
   rw[Ls (f:=f) (by simpa using h) (by omega)]
end Go.Md
namespace Go.Md
open Go.Dn
theorem tZ (l:List Int) (x:Int) (hl:l.length<1000000000):iJ l x=some (decide (x∈l),()):=by
 unfold iJ uW
 have loop:∀ f,l.length<f→∃ n:Int,iter f ((l,x,(l.length:Int),(0:Int),()):iK) lY=(if x∈l then some (Sum.inl (n,())) else some (Sum.inr ()))∧0≤n:=by
  intro f hf
  refine cn (Inv:=fun i X=>X=((l,x,(l.length:Int),(i:Int),()):iK)∧∀ j y,j<i→l[j]? =some y→y≠x) l.length
   (fun r=>∃ n:Int,r=(if x∈l then some (Sum.inl (n,())) else some (Sum.inr ()))∧0≤n) ?_ ?_ f 0 _ ⟨rfl,fun _ _ h=>absurd h (Wl _)⟩ (by omega) (by omega)
  ·rintro i _ again hi ⟨rfl,hb⟩ ih
   unfold lY
   dsimp only
   have hy:l[i]? =some l[i]:=aK hi
   generalize l[i]=y at hy
   rw[aZ (by omega),bN,hy,Wt]
   by_cases he:x=y
   ·rw[show (x==y)=true by simpa using he,WE]
    exact⟨i,by rw[WN (he ▸ VG hy)],by omega⟩
   ·rw[show (x==y)=false by simpa using he,WD,br (by omega) (by omega)]
    refine ih _ ⟨rfl,fun j z hj hz=> ?_⟩
    rcases We.1 hj with h | h
    ·exact hb j z h hz
    ·subst h;rw[hy] at hz;cases hz;exact fun e=>he e.symm
  ·rintro _ again ⟨rfl,hb⟩
   unfold lY
   dsimp only
   rw[aX (by omega)]
   refine⟨0, ?_,UG _⟩
   rw[WM]
   intro hm
   obtain⟨j,hj⟩:=VE.1 hm
   exact hb j x (Ve.1 hj).1 hj rfl
 obtain⟨n,h1,h2⟩:=loop (List.length l+(Int.natAbs x+(Int.natAbs ((List.length l:Int))+(Int.natAbs (0:Int)+2)))) (by omega)
 rw[h1]
 by_cases hm:x∈l
 ·rw[WN hm,rR,Wt,WH hm]
  congr 2
  exact WH h2
 ·rw[WM hm,bD,Wt,WG hm]
  rfl
def z7 (c:UInt8):Bool:=decide (48≤c.toNat)&&decide (c.toNat≤57)
theorem Nd {c:UInt8}:(decide ((c.toNat:Int)<48)=false∧decide ((c.toNat:Int)>57)=false)↔z7 c=true:=by
 simp only[z7,Us,WI,decide_eq_false_iff_not]
 omega
theorem JI (s:List UInt8) (hs:s.length≤9223372036854775807):rS s=some (decide (s≠[])&&s.all z7,()):=by
 unfold rS BB
 by_cases h0:s=[]
 ·subst h0;rfl
 ·rw[show (!(s==[]))=true by cases s<;>simp_all,WE,WH h0,UE]
  have loop:∀ f,s.length<f→iter f ((s,(48:Int),(57:Int),(s.length:Int),(0:Int),()):nW) sS=(if s.all z7=true then some (Sum.inr ()) else some (Sum.inl (false,()))):=by
   intro f hf
   refine cn (Inv:=fun i X=>X=((s,(48:Int),(57:Int),(s.length:Int),(i:Int),()):nW)∧(s.take i).all z7=true) s.length
    (fun r=>r=(if s.all z7=true then some (Sum.inr ()) else some (Sum.inl (false,())))) ?_ ?_ f 0 _ ⟨rfl,by simp⟩ (by omega) (by omega)
   ·rintro i _ again hi ⟨rfl,hb⟩ ih
    unfold sS
    dsimp only
    have hy:s[i]? =some s[i]:=aK hi
    have hym:s[i]∈s:=Vn hi
    generalize s[i]=y at hy hym
    rw[aZ (by omega),N0 hy,Wt,Wt,br (by omega) (by omega)]
    cases hd:z7 y with
    | true=>
     obtain⟨h1,h2⟩:=Nd.2 hd
     rw[h1,h2,WD,WD]
     refine ih _ ⟨rfl, ?_⟩
     rw[D1 hy]
     simp[hb,hd]
    | false=>
     have hall:s.all z7=false:=by
      rw[List.all_eq_false]
      exact⟨y,hym,by simp[hd]⟩
     rw[hall]
     cases h1:decide ((y.toNat:Int)<48) with
     | true=>rfl
     | false=>
      cases h2:decide ((y.toNat:Int)>57) with
      | true=>rfl
      | false=>have:=Nd.1 ⟨h1,h2⟩;rw[hd] at this;cases this
   ·rintro _ again ⟨rfl,hb⟩
    unfold sS
    dsimp only
    rw[aX (by omega)]
    rw[VV (V7 _)] at hb
    rw[WN hb]
  rw[loop _ (by omega)]
  cases s.all z7<;>rfl
theorem OF (s:List UInt8) (hs:s.length≤100):∃ b,FX s=some (b,()):=by
 unfold FX
 have loop:∀ f,s.length<f→∃ n:Int,iter f ((s,(0:Int),(s.length:Int),(0:Int),()):se) we=some (Sum.inr (n,())):=by
  intro f hf
  refine cn (Inv:=fun i X=>∃ n:Int,X=((s,n,(s.length:Int),(i:Int),()):se)) s.length
   (fun r=>∃ n:Int,r=some (Sum.inr (n,()))) ?_ ?_ f 0 _ ⟨0,rfl⟩ (by omega) (by omega)
  ·rintro i _ again hi ⟨n,rfl⟩ ih
   unfold we
   dsimp only
   have e:w64 (w64 ((s.length:Int) - 1) - (i:Int))=((s.length - 1 - i:Nat):Int):=by
    rw[br (n:=(s.length:Int) - 1) (by omega) (by omega),br (by omega) (by omega)];omega
   have hy:s[s.length - 1 - i]? =some (s[s.length - 1 - i]'(by omega)):=aK (by omega)
   rw[aZ (by omega),e,N0 hy,Wt,br (n:=(i:Int)+1) (by omega) (by omega)]
   cases (Int.tmod (i:Int) 2==1) with
   | true=>rw[WE];exact ih _ ⟨_,rfl⟩
   | false=>rw[WD];exact ih _ ⟨_,rfl⟩
  ·rintro _ again ⟨n,rfl⟩
   unfold we
   dsimp only
   rw[aX (by omega)]
   exact⟨n,rfl⟩
 obtain⟨n,h⟩:=loop (List.length s+(Int.natAbs (0:Int)+(Int.natAbs ((List.length s:Int))+(Int.natAbs (0:Int)+2)))) (by omega)
 rw[h]
 exact⟨_,rfl⟩
def lbl (s:List UInt8):Bool:=decide (s.length=18)&&(s.all z7&&((FX s).map (·.1)).getD false)
theorem yP (s:List UInt8) (hs:s.length≤9223372036854775807):oq s=some (lbl s,()):=by
 unfold oq vB uk rq wI
 rw[sU,Wt,Wt]
 dsimp only
 rw[show (!(!(decide ((3:Int)<1∨(5:Int)<3))))=false by decide,WD,show ((3:Int)==4)=false from rfl,show ((3:Int)==5)=false from rfl,show ((3:Int)==1)=false from rfl,show ((3:Int)==2)=false from rfl]
 simp only[WD,Wt]
 rw[tZ _ _ (by decide),Wt,JI s hs]
 unfold lbl
 by_cases hl:s.length=18
 ·obtain⟨b,hb⟩:=OF s (by omega)
  have hb2:zO s=some (b,()):=hb
  have hne:s≠[]:=fun e=>by subst e;cases hl
  rw[WH (show (s.length:Int)∈[18] by simp;omega),WE,Wt,WH hne,UE,WH hl,UE,hb2,hb]
  cases s.all z7<;>simp
 ·rw[WG (show ¬ (s.length:Int)∈[18] by simp;omega),WG hl]
  rfl
def qOk (d:az) (zero:Bool):Bool:=inR d 0 1000000000 3&&(!(d.1==0)||zero)
theorem JT {d:az} (hd:eN d):vW d 3 1000000000=some (inR d 0 1000000000 3,()):=by
 unfold vW
 have hp:=FV d.2.toNat
 have hp2:(10:Int) ^ d.2.toNat≤1000000000:=by
  have:=Wo (n:=10) (by omega) (show d.2.toNat≤9 by have:=hd.2.2;omega)
  have h2:=Int.ofNat_le.2 this
  simpa using h2
 rw[K5 d.2 hd.2.1 (by have:=hd.2.2;omega)]
 have e:inR d 0 1000000000 3=(decide (d.2≤3)&&(decide (d.1≥0)&&decide (d.1≤1000000000*10 ^ d.2.toNat))):=by
  unfold inR
  rw[← Bool.decide_and, ← Bool.decide_and,decide_eq_decide,Int.zero_mul]
  constructor
  ·rintro⟨_,h2,h3,h4⟩;exact⟨h2,h3,h4⟩
  ·rintro⟨h2,h3,h4⟩;exact⟨hd,h2,h3,h4⟩
 rw[e,Wt,br (n:=1000000000*10 ^ d.2.toNat) (by omega) (by omega)]
 cases decide (d.2≤3)<;>cases decide (d.1≥0)<;>cases decide (d.1≤1000000000*10 ^ d.2.toNat)<;>rfl
theorem tW (d:az) (z:Bool):cQ d z=some (if qOk d z=true then 0 else 1,()):=by
 unfold cQ qOk
 rw[AP,Wt]
 by_cases hd:eN d
 ·rw[JT hd,WN hd]
  dsimp only
  rw[show ((0:Int) != 0)=false from rfl,WD,Wt]
  cases inR d 0 1000000000 3<;>cases (d.1==0)<;>cases z<;>rfl
 ·have:inR d 0 1000000000 3=false:=by unfold inR;simp[hd]
  simp[hd,this]
end Go.Md
namespace Go.Md
open Go.Dn
theorem Km (l:List ah) (t:List UInt8) (hl:l.length<1000000000) (hs:Asc (·.1) l):
 ∃ i:Nat,cA l t ()=some ((i:Int),(fG (·.1) t l).isSome,())∧∀ k,fG (·.1) t l=some k→i=k:=by
 unfold cA
 have loop:∀ f,l.length<f→∃ i:Nat,iter f ((l,t,(),(l.length:Int),(0:Int),(l.length:Int),()):bO) dF=some (Sum.inr (l,t,(),(l.length:Int),(i:Int),()))∧i≤l.length∧(∀ k x,l[k]? =some x→k<i→Op.bytesLess x.1 t=true)∧∀ k x,l[k]? =some x→i≤k→Op.bytesLess x.1 t=false:=by
  intro f hf
  refine xU (Inv:=fun X=>∃ i j:Nat,X=((l,t,(),(l.length:Int),(i:Int),(j:Int),()):bO)∧i≤j∧j≤l.length∧(∀ k x,l[k]? =some x→k<i→Op.bytesLess x.1 t=true)∧∀ k x,l[k]? =some x→j≤k→Op.bytesLess x.1 t=false)
   (fun X=>(X.2.2.2.2.2.1 - X.2.2.2.2.1).toNat)
   (fun _ r=>∃ i:Nat,r=some (Sum.inr (l,t,(),(l.length:Int),(i:Int),()))∧i≤l.length∧(∀ k x,l[k]? =some x→k<i→Op.bytesLess x.1 t=true)∧∀ k x,l[k]? =some x→i≤k→Op.bytesLess x.1 t=false) ?_ f _ ⟨0,l.length,rfl,by omega,by omega,fun _ _ _ h=>absurd h (Wl _),fun k x hk hle=>by have:=(Ve.1 hk).1;omega⟩ (by dsimp only;omega)
  rintro _ again ⟨i,j,rfl,hij,hj,h1,h2⟩ ih
  dsimp only at ih
  unfold dF
  dsimp only
  by_cases hlt:i<j
  ·rw[aZ (by omega)]
   have em:w64 (Int.fdiv (bI (w64 ((i:Int)+(j:Int)))) (2 ^ 1))=(((i+j) / 2:Nat):Int):=by
    rw[br (n:=(i:Int)+(j:Int)) (by omega) (by omega),cO (by omega) (by omega),UF _ (by omega),br (by omega) (by omega)]
    omega
   rw[em]
   have hm:(i+j) / 2<l.length:=by omega
   have hy:l[(i+j) / 2]? =some l[(i+j) / 2]:=aK hm
   have hmi:i≤(i+j) / 2∧(i+j) / 2<j:=by omega
   generalize (i+j) / 2=m at*
   generalize l[m]=y at hy
   rw[bN,hy,Wt]
   show ∃ i,Option.bind (Option.bind (some (Lib.compareBytes y.1 t,())) fun r1=>some (r1.1,())) _=_∧_
   rw[Wt,Wt]
   dsimp only
   by_cases hc:Lib.compareBytes y.1 t<0
   ·rw[aZ hc,br (by omega) (by omega)]
    refine ih _ ⟨m+1,j,rfl,by omega,hj,fun k x hk hkm=> ?_,h2⟩ (by dsimp only;omega)
    rcases We.1 hkm with h | h
    ·have:=hs k m x y h hk hy
     exact iS this (oV.1 hc)
    ·subst h;rw[hy] at hk;cases hk;exact oV.1 hc
   ·rw[aX hc]
    refine ih _ ⟨i,m,rfl,by omega,by omega,h1,fun k x hk hkm=> ?_⟩ (by dsimp only;omega)
    have hc':Op.bytesLess y.1 t=false:=by
     cases h:Op.bytesLess y.1 t with
     | false=>rfl
     | true=>exact absurd (oV.2 h) hc
    rcases Nat.lt_or_eq_of_le hkm with h | h
    ·cases hx:Op.bytesLess x.1 t with
     | false=>rfl
     | true=>rw[iS (hs m k y x h hy hk) hx] at hc';cases hc'
    ·subst h;rw[hy] at hk;cases hk;exact hc'
  ·rw[aX (by omega)]
   have:i=j:=by omega
   subst this
   exact⟨i,rfl,hj,h1,h2⟩
 obtain⟨i,h1,h2,h3,h4⟩:=loop (List.length l+(List.length t+(Int.natAbs ((List.length l:Int))+(Int.natAbs (0:Int)+(Int.natAbs ((List.length l:Int))+2))))) (by omega)
 refine⟨i, ?_,fun k hk=> ?_⟩
 ·rw[h1,bD]
  dsimp only
  by_cases hi:i<l.length
  ·have hy:l[i]? =some l[i]:=aK hi
   generalize l[i]=y at hy
   rw[aZ (by omega),bN,hy,Wt]
   show Option.bind (Option.bind (some (Lib.compareBytes y.1 t,())) fun r1=>some (r1.1,())) _=_
   rw[Wt,Wt]
   congr 3
   by_cases he:y.1=t
   ·rw[Gm hs hy he,rN.2 he];rfl
   ·have hne:¬ Lib.compareBytes y.1 t=0:=fun h=>he (rN.1 h)
    rw[show (Lib.compareBytes y.1 t==0)=false by simpa using hne]
    cases hx:fG (·.1) t l with
    | none=>rfl
    | some k=>
     exfalso
     obtain⟨x,k1,k2⟩:=kL hx
     rcases Wg k i with h | h | h
     ·have:=h3 k x k1 h;rw[k2,di] at this;cases this
     ·subst h;rw[hy] at k1;cases k1;exact he k2
     ·have:=hs i k y x h hy k1
      dsimp only at this
      rw[k2,h4 i y hy (V7 _)] at this;cases this
  ·rw[aX (by omega)]
   congr 3
   cases hx:fG (·.1) t l with
   | none=>rfl
   | some k=>
    exfalso
    obtain⟨x,k1,k2⟩:=kL hx
    have:=h3 k x k1 (by have:=(Ve.1 k1).1;omega)
    rw[k2,di] at this;cases this
 ·obtain⟨x,k1,k2⟩:=kL hk
  rcases Wg k i with h | h | h
  ·have:=h3 k x k1 h;rw[k2,di] at this;cases this
  ·exact h.symm
  ·have hy:l[i]? =some (l[i]'(by have:=(Ve.1 k1).1;omega)):=aK _
   have:=hs i k _ x h hy k1
   dsimp only at this
   rw[k2,h4 i _ hy (V7 _)] at this;cases this
theorem jm (a:aq) (t:List UInt8) (hl:a.2.2.2.length<1000000000) (hs:Asc (·.1) a.2.2.2):
 ∃ i:Nat,fU a t=some ((i:Int),(fG (·.1) t a.2.2.2).isSome,())∧∀ k,fG (·.1) t a.2.2.2=some k→i=k:=by
 obtain⟨i,h1,h2⟩:=Km a.2.2.2 t hl hs
 exact⟨i,by unfold fU;rw[h1,Wt],h2⟩
def MX (a b:aj):Int:=fQ (fun _ y=>y) 0 [Lib.compareBytes a.1 b.1,Lib.compareBytes a.2.1 b.2.1,Lib.compareBytes a.2.2.1 b.2.2.1]
theorem Qx (l:List Int) (hl:l.length<1000):vG l=some (fQ (fun _ y=>y) 0 l,()):=by
 unfold vG
 rw[sR (f:=ur) (fun i=>(((0:Int),l,(l.length:Int),(i:Int),()):uu)) l (fun _ y=>y) (0,()) ?_ ?_ ?_ _ ?_]
 ·exact (Tx _ _ _ 0 rfl).trans (by
   by_cases h:fQ (fun _ y=>y) 0 l=0
   ·rw[WM (by simpa using h),h]
   ·rw[WN h])
 ·rfl
 ·intro i y again hy
  have hi:=(Ve.1 hy).1
  unfold ur
  dsimp only
  rw[aZ (by omega),bN,hy,Wt,br (by omega) (by omega)]
  by_cases h:y=0
  ·subst h;rfl
  ·rw[show (y != 0)=true by simpa using h,WE,WM h]
 ·intro again
  unfold ur
  dsimp only
  rw[aX (by omega)]
 ·omega
theorem zo (a b:aj):dD a b=some (MX a b,()):=by
 unfold dD strings_Compare MX
 simp only[Wt]
 rw[Qx _ (by simp),Wt]
def MI (l:List aj) (i:Nat) (y:aj):Bool:=match i with
 | 0=>false
 | i+1=>match l[i]? with
  | some p=>decide (MX p y≥0)
  | none=>false
def I7 (l:List aj) (i:Nat) (c:aj):Int:=
 if rQ c.1=false then 5 else if rQ c.2.1=false then 5 else if (!(c.2.2.1==[])&& !rQ c.2.2.1)=true then 5
 else if MI l i c=true then 8 else if qOk c.2.2.2 false=true then 0 else 1
def xO (l:List aj):Int:=if 100<l.length then 2 else fQ (I7 l) 0 l
theorem FW {α:Type} {l:List α} {i:Nat} (hi:i<l.length) (hl:l.length<1000000000):idx l (w64 (((i+1:Nat):Int) - 1))=l[i]? :=by
 rw[br (by omega) (by omega),show ((i+1:Nat):Int) - 1=((i:Nat):Int) by omega,bN]
theorem s9 (l:List aj):fP l=some (xO l,()):=by
 unfold fP xO
 by_cases hb:100<l.length
 ·rw[aZ (by omega),WN hb]
 ·rw[aX (by omega),WM hb]
  rw[sR (f:=iA) (fun i=>((l,l,(l.length:Int),(i:Int),()):iB)) l (I7 l) () ?_ ?_ ?_ _ ?_]
  ·exact Sg _ _
  ·rfl
  ·intro i y again hy
   have hi:=(Ve.1 hy).1
   unfold iA
   dsimp only
   rw[aZ (by omega),bN,hy,Wt]
   simp only[DT,Wt,tW,zo]
   have hw:w64 ((i:Int)+1)=((i+1:Nat):Int):=by rw[br (by omega) (by omega)];omega
   rw[hw]
   unfold I7
   generalize qOk y.2.2.2 false=q
   cases i with
   | zero=>
    simp only[MI]
    cases rQ y.1<;>cases rQ y.2.1<;>cases (y.2.2.1==[])<;>cases rQ y.2.2.1<;>cases q<;>simp
   | succ i=>
    have hp:l[i]? =some (l[i]'(by omega)):=aK (by omega)
    have ep:MI l (i+1) y=decide (MX (l[i]'(by omega)) y≥0):=by simp only[MI,hp]
    have hpos:decide (((i+1:Nat):Int)>0)=true:=by simp
    rw[FW (by omega) (by omega),hp,ep,hpos]
    simp only[Wt,WE]
    generalize decide (MX (l[i]'(by omega)) y≥0)=p
    cases rQ y.1<;>cases rQ y.2.1<;>cases (y.2.2.1==[])<;>cases rQ y.2.2.1<;>cases q<;>cases p<;>simp
  ·intro again
   unfold iA
   dsimp only
   rw[aX (by omega)]
  ·omega
def Gt (l:List ah) (i:Nat) (y:ah):Bool:=match i with
 | 0=>false
 | i+1=>match l[i]? with
  | some p=>Op.bytesLess y.1 p.1||y.1==p.1
  | none=>false
def nK (l:List ah) (i:Nat) (p:ah):Int:=
 if lbl p.1=false then 3 else if Gt l i p=true then 8 else if qOk p.2.2.1 true=false then 1 else xO p.2.2.2
theorem Ce (l:List ah) (i:Nat) (y:ah) (hy:l[i]? =some y) (hl:l.length<1000000000) (hs:y.1.length≤9223372036854775807):mU l (i:Int)=some (nK l i y,()):=by
 have hi:=(Ve.1 hy).1
 unfold mU nK
 rw[bN,hy,Wt,yP _ hs]
 simp only[Wt,tW,s9]
 cases i with
 | zero=>
  simp only[Gt]
  cases lbl y.1<;>cases qOk y.2.2.1 true<;>simp
 | succ i=>
  have hp:l[i]? =some (l[i]'(by omega)):=aK (by omega)
  have ep:Gt l (i+1) y=(Op.bytesLess y.1 (l[i]'(by omega)).1||y.1==(l[i]'(by omega)).1):=by simp only[Gt,hp]
  have hpos:decide (((i+1:Nat):Int)>0)=true:=by simp
  rw[FW (by omega) hl,hp,ep,hpos]
  simp only[Wt,WE]
  generalize (Op.bytesLess y.1 (l[i]'(by omega)).1||y.1==(l[i]'(by omega)).1)=p
  cases lbl y.1<;>cases qOk y.2.2.1 true<;>cases p<;>simp
end Go.Md
namespace Go.Md
open Go.Dn
def par (l:List ah) (k:Nat):Option Nat:=match l[k]? with
 | some p=>if p.2.1=[] then none else fG (·.1) p.2.1 l
 | none=>none
theorem JX {l:List ah} {k k':Nat} (h:par l k=some k'):k'<l.length:=by
 unfold par at h
 split at h
 ·split at h
  ·cases h
  ·obtain⟨x,hx,_⟩:=kL h
   exact (Ve.1 hx).1
 ·cases h
def Mw (l:List ah):Prop:=∀ p∈l,p.2.1=[]∨(fG (·.1) p.2.1 l).isSome=true
theorem O7 {l:List ah} {k:Nat} {p:ah} (h1:Mw l) (hp:l[k]? =some p):(p.2.1=[]∧par l k=none)∨(p.2.1≠[]∧∃ k',par l k=some k'∧fG (·.1) p.2.1 l=some k'):=by
 unfold par
 rw[hp]
 dsimp only
 by_cases h:p.2.1=[]
 ·exact .inl ⟨h,by rw[WN h]⟩
 ·right
  rw[WM h]
  rcases h1 p (VG hp) with h2 | h2
  ·exact absurd h2 h
  ·obtain⟨k',hk'⟩:=Ww.1 h2
   exact⟨h,k',hk',hk'⟩
def vz (l:List ah):Prop:=∀ k,k<l.length→¬ qc (par l) k
def jc (l:List ah) (i:Nat):List Nat:=anc (par l) l.length i
theorem HK {l:List ah} (h:vz l) {i:Nat} (hi:i<l.length):(jc l i).length<l.length:=Sh (fun _ _=>JX) h hi
theorem EE {l:List ah} (h:vz l) {i k:Nat} (hi:i<l.length) (hp:par l i=some k):jc l i=k::jc l k:=by
 have h1:=HK h hi
 unfold jc at*
 rw[← Ls h1 (show l.length≤l.length+1 by omega),wJ hp]
theorem Qk {l:List ah} {i:Nat} (hp:par l i=none):jc l i=[]:=HL hp _
theorem OJ {l:List ah} {i x:Nat} (h:x∈jc l i):x<l.length:=MQ (fun _ _=>JX) h
theorem Pt {l:List ah} (h:vz l) {i:Nat} (hi:i<l.length):(i::jc l i).Nodup:=EF (fun _ _=>JX) h hi
def cI (l:List Nat):List Int:=l.map (fun n:Nat=>(n:Int))
theorem Qt {l:List Nat} {x:Nat}:(x:Int)∈cI l↔x∈l:=by
 unfold cI
 rw[VF]
 constructor
 ·rintro⟨a,h1,h2⟩;have:a=x:=by omega
  exact this ▸ h1
 ·intro h;exact⟨x,h,rfl⟩
theorem xM (l:List Nat):(cI l).length=l.length:=by simp[cI]
theorem As (a:aq) (hl:a.2.2.2.length≤500) (hs:Asc (·.1) a.2.2.2) (h1:Mw a.2.2.2) (i:Nat) (hi:i<a.2.2.2.length):
 ∃ (out:List Nat) (ok:Bool),gq a (i:Int)=some (cI out,ok,())∧(ok=false↔qc (par a.2.2.2) i)∧(vz a.2.2.2→out=jc a.2.2.2 i):=by
 unfold gq
 have hat:=fun t=>jm a t (by omega) hs
 obtain⟨a1,a2,a3,l⟩:=a
 dsimp only at*
 have loop:∀ f,l.length+1<f→∃ (out:List Nat) (ok:Bool),(iter f (((i:Int),([]:List Int),(i:Int),a1,a2,a3,l,()):iM) pH=(if ok=true then (some (Sum.inr (cI out,())):Option gA) else some (Sum.inl (cI out,false,())))∨(ok=true∧iter f (((i:Int),([]:List Int),(i:Int),a1,a2,a3,l,()):iM) pH=(some (Sum.inl (cI out,true,())):Option gA)))∧(ok=false↔qc (par l) i)∧(vz l→out=jc l i):=by
  intro f hf
  refine xU (Inv:=fun X=>∃ (out:List Nat) (k:Nat),X=(((i:Int),cI out,(k:Int),a1,a2,a3,l,()):iM)∧k<l.length∧out.Nodup∧(∀ x∈out,x<l.length)∧(∃ j,itp (par l) j i=some k)∧(qc (par l) i→∃ d,uK (par l) i k d∧∀ x∈out,∃ e,d≤e∧uK (par l) i x e)∧(vz l→out++jc l k=jc l i))
   (fun X=>l.length+1 - X.2.1.length)
   (fun _ r=>∃ (out:List Nat) (ok:Bool),(r=(if ok=true then (some (Sum.inr (cI out,())):Option gA) else some (Sum.inl (cI out,false,())))∨(ok=true∧r=(some (Sum.inl (cI out,true,())):Option gA)))∧(ok=false↔qc (par l) i)∧(vz l→out=jc l i)) ?_ f _
   ⟨[],i,rfl,hi,by simp,by simp,⟨0,rfl⟩,fun hon=>by obtain⟨d,hd⟩:=hon.TW;exact⟨d,hd,by simp⟩,fun _=>by simp⟩ (by dsimp only;simp;omega)
  rintro _ again ⟨out,k,rfl,hk,hnd,hlt,⟨j,hj⟩,hon,hno⟩ ih
  dsimp only at ih
  have hlen:=xY l.length out hnd hlt
  unfold pH
  dsimp only
  have hy:l[k]? =some l[k]:=aK hk
  generalize l[k]=p at hy
  rw[bN,hy,Wt,Wt]
  rcases O7 h1 hy with ⟨g1,g2⟩ | ⟨g1,k',g2,g3⟩
  ·rw[g1]
   refine⟨out,true,.inl rfl, ?_,fun hn=> ?_⟩
   ·constructor
    ·intro h;cases h
    ·intro h
     obtain⟨d,hd,_⟩:=hon h
     obtain⟨k',e,_⟩:=hd.step
     rw[g2] at e;cases e
   ·have:=hno hn
    rw[Qk g2,List.append_nil] at this
    exact this
  ·have hk':=JX g2
   rw[show (!(p.2.1==[]))=true by cases hp:p.2.1<;>simp_all,WE]
   obtain⟨q,hq1,hq2⟩:=hat p.2.1
   have:q=k':=hq2 k' g3
   subst this
   rw[hq1,Wt]
   dsimp only
   by_cases e1:q=i
   ·subst e1
    rw[show ((q:Int)==(q:Int))=true by simp,WE]
    have hloop:qc (par l) q:=⟨j,by rw[KP (b:=1) hj];simp[itp,g2]⟩
    exact⟨[],false,.inl rfl,⟨fun _=>hloop,fun _=>rfl⟩,fun hn=>absurd hloop (hn q hi)⟩
   ·rw[show ((q:Int)==(i:Int))=false by rw[WB];omega,WD,tZ _ _ (by rw[xM];omega),Wt]
    by_cases e2:q∈out
    ·rw[WH (Qt.2 e2),WE]
     refine⟨out,true,.inr ⟨rfl,rfl⟩,⟨fun h=>(by cases h),fun h=> ?_⟩,fun hn=> ?_⟩
     ·obtain⟨d,hd,hx⟩:=hon h
      obtain⟨k2,e,h2⟩:=hd.step
      rw[g2] at e;cases e
      rcases h2 with ⟨h2,_⟩ | ⟨_,e,he,h3⟩
      ·exact absurd h2 e1
      ·obtain⟨f',hf',hx'⟩:=hx q e2
       have:=h3.uniq hx'
       omega
     ·exfalso
      have h3:=hno hn
      have h4:=(VN.1 (Pt hn hi)).2
      rw[← h3,EE hn hk g2,List.nodup_append] at h4
      exact h4.2.2 q e2 q (by simp) rfl
    ·rw[WG (fun h=>e2 (Qt.1 h)),WD,cM (zy (by rw[xM];omega) (by rw[xM];omega))]
     refine ih _ ⟨out++[q],q,by simp[cI],hk', ?_, ?_,⟨j+1, ?_⟩,fun h=> ?_,fun hn=> ?_⟩ (by simp[xM];omega)
     ·rw[List.nodup_append]
      exact⟨hnd,by simp,fun x hx y hy=>by simp at hy;subst hy;exact fun e=>e2 (e ▸ hx)⟩
     ·intro x hx
      rcases Vx.1 hx with hx | hx
      ·exact hlt x hx
      ·simp at hx;omega
     ·rw[KP (b:=1) hj];simp[itp,g2]
     ·obtain⟨d,hd,hx⟩:=hon h
      obtain⟨k2,e,h2⟩:=hd.step
      rw[g2] at e;cases e
      rcases h2 with ⟨h2,_⟩ | ⟨_,e,he,h3⟩
      ·exact absurd h2 e1
      ·refine⟨e,h3,fun x hx2=> ?_⟩
       rcases Vx.1 hx2 with hx2 | hx2
       ·obtain⟨f',hf',hx'⟩:=hx x hx2;exact⟨f',by omega,hx'⟩
       ·simp at hx2;subst hx2;exact⟨e,V7 _,h3⟩
     ·rw[← hno hn,EE hn hk g2,UR];rfl
 obtain⟨out,ok,h2,h3,h4⟩:=loop (Int.natAbs (i:Int)+(List.length ([]:List Int)+(Int.natAbs (i:Int)+(List.length a1+(List.length a2+(Int.natAbs a3+(List.length l+2))))))) (by omega)
 refine⟨out,ok, ?_,h3,h4⟩
 rcases h2 with h2 | ⟨h5,h2⟩
 ·rw[h2]
  cases ok<;>rfl
 ·rw[h2,h5];rfl
end Go.Md
namespace Go.Md
open Go.Dn
def n1 (l:List ah) (p:ah):Int:=if p.2.1≠[]∧(fG (·.1) p.2.1 l).isSome=false then 9 else 0
open Classical in
noncomputable def n2 (l:List ah) (i:Nat):Int:=if qc (par l) i then 17 else 0
def n3 (l:List ah) (i:Nat):Int:=if 5<(jc l i).length then 2 else 0
def NB (l:List ah):Int:=fQ (fun _ p=>n1 l p) 0 l
noncomputable def NC (l:List ah):Int:=fQ (fun i _=>n2 l i) 0 l
def Tm (l:List ah):Int:=fQ (fun i _=>n3 l i) 0 l
noncomputable def MF (l:List ah):Int:=if NB l≠0 then NB l else if NC l≠0 then NC l else Tm l
theorem Hw {l:List ah} (h:NB l=0):Mw l:=by
 intro p hp
 obtain⟨i,hi⟩:=VE.1 hp
 have:=ku h i p hi
 unfold n1 at this
 by_cases h1:p.2.1=[]
 ·exact .inl h1
 ·cases h2:(fG (fun x:ah=>x.1) p.2.1 l).isSome with
  | true=>exact .inr rfl
  | false=>rw[WN ⟨h1,h2⟩] at this;omega
theorem Hy {l:List ah} (h:NC l=0):vz l:=by
 intro k hk hon
 have:=ku h k l[k] (aK hk)
 unfold n2 at this
 rw[Wq,WN hon] at this
 omega
theorem NY {γ:Type} (s:Int) (u:γ) (k:γ→Option (Int×Unit)) (z:Int) (hk:s=0→k u=some (z,())):aW (β:=Int×Unit) (γ:=γ) (if s=0 then some (Sum.inr u) else some (Sum.inl (s,()))) k=some (if s≠0 then s else z,()):=by
 by_cases h:s=0
 ·rw[WN h,bD,hk h,WM (by simpa using h)]
 ·rw[WM h,rR,WN h]
theorem Tz {γ:Type} (s:Int) (u:γ):aW (β:=Int×Unit) (γ:=γ) (if s=0 then some (Sum.inr u) else some (Sum.inl (s,()))) (fun _=>some (0,()))=some (s,()):=Sg s u
theorem Ew (a:aq) (hl:a.2.2.2.length≤500) (hs:Asc (·.1) a.2.2.2):pI a=some (MF a.2.2.2,()):=by
 unfold pI MF
 have hat:=fun t=>jm a t (by omega) hs
 have har:=fun h1 i hi=>As a hl hs h1 i hi
 obtain⟨a1,a2,a3,l⟩:=a
 dsimp only at*
 rw[sR (f:=lR) (fun i=>((l,(l.length:Int),(i:Int),a1,a2,a3,l,()):lT)) l (fun _ p=>n1 l p) (a1,a2,a3,l,()) ?_ ?_ ?_ _ ?_]
 ·refine NY _ _ _ _ fun z1=> ?_
  have h1:=Hw z1
  dsimp only
  rw[sR (f:=lS) (fun i=>(((l.length:Int),(i:Int),a1,a2,a3,l,()):lU)) l (fun i _=>n2 l i) (a1,a2,a3,l,()) ?_ ?_ ?_ _ ?_]
  ·refine NY _ _ _ _ fun z2=> ?_
   have h2:=Hy z2
   dsimp only
   rw[sR (f:=kj) (fun i=>(((l.length:Int),(i:Int),a1,a2,a3,l,()):ko)) l (fun i _=>n3 l i) () ?_ ?_ ?_ _ ?_]
   ·exact Tz _ _
   ·rfl
   ·intro i y again hy
    have hi:=(Ve.1 hy).1
    unfold kj
    dsimp only
    obtain⟨out,ok,g1,g2,g3⟩:=har h1 i hi
    rw[aZ (by omega),g1,Wt,br (by omega) (by omega)]
    dsimp only
    rw[g3 h2,xM]
    unfold n3
    by_cases h5:5<(jc l i).length
    ·rw[aZ (by omega),WN h5,WM (by omega)]
    ·rw[aX (by omega),WM h5,WN rfl];rfl
   ·intro again
    unfold kj
    dsimp only
    rw[aX (by omega)]
   ·omega
  ·rfl
  ·intro i y again hy
   have hi:=(Ve.1 hy).1
   unfold lS
   dsimp only
   obtain⟨out,ok,g1,g2,g3⟩:=har h1 i hi
   rw[aZ (by omega),g1,Wt,br (by omega) (by omega)]
   dsimp only
   unfold n2
   by_cases hon:qc (par l) i
   ·rw[g2.2 hon,WN hon,WM (by omega)];rfl
   ·have:ok=true:=by
     cases ok with
     | true=>rfl
     | false=>exact absurd (g2.1 rfl) hon
    rw[this,WM hon,WN rfl];rfl
  ·intro again
   unfold lS
   dsimp only
   rw[aX (by omega)]
  ·omega
 ·rfl
 ·intro i y again hy
  have hi:=(Ve.1 hy).1
  unfold lR
  dsimp only
  obtain⟨q,hq1,hq2⟩:=hat y.2.1
  rw[aZ (by omega),bN,hy,Wt,hq1,Wt,br (by omega) (by omega)]
  dsimp only
  by_cases e1:y.2.1=[]
  ·have hn:n1 l y=0:=by unfold n1;rw[WM (fun h=>h.1 e1)]
   rw[hn,WN rfl,e1];rfl
  ·rw[show (!(y.2.1==[]))=true by cases hp:y.2.1<;>simp_all,WE]
   cases h2:(fG (fun x:ah=>x.1) y.2.1 l).isSome with
   | true=>
    have hn:n1 l y=0:=by unfold n1;rw[WM (fun h=>by rw[h2] at h;exact absurd h.2 (by simp))]
    rw[hn,WN rfl];rfl
   | false=>
    have hn:n1 l y=9:=by unfold n1;rw[WN ⟨e1,h2⟩]
    rw[hn,WM (by omega)];rfl
 ·intro again
  unfold lR
  dsimp only
  rw[aX (by omega)]
 ·omega
noncomputable def gx (a:aq):Int:=
 if rQ a.1=false then 5 else if rQ a.2.1=false then 5 else if ¬(1≤a.2.2.1∧a.2.2.1≤3652059) then 1
 else if 500<a.2.2.2.length then 2 else if fQ (nK a.2.2.2) 0 a.2.2.2≠0 then fQ (nK a.2.2.2) 0 a.2.2.2 else MF a.2.2.2
theorem EP {l:List ah} (h:fQ (nK l) 0 l=0):Asc (·.1) l:=by
 have step:∀ i x y,l[i]? =some x→l[i+1]? =some y→Op.bytesLess x.1 y.1=true:=fun i x y hx hy=>by
  have:=ku h (i+1) y hy
  rw[Wq] at this
  unfold nK at this
  split at this
  ·omega
  ·split at this
   ·omega
   ·rename_i h2
    have h3:Gt l (i+1) y=false:=by simpa using h2
    simp only[Gt,hx,UC,WB] at h3
    rcases ER x.1 y.1 with h1 | h1 | h1
    ·exact h1
    ·exact absurd h1.symm h3.2
    ·rw[h3.1] at h1;cases h1
 intro i j x y hij hx hy
 induction j generalizing y with
 | zero=>omega
 | succ j ih=>
  rcases We.1 hij with h1 | h1
  ·have hj:j<l.length:=by have:=(Ve.1 hy).1;omega
   have hz:l[j]? =some l[j]:=aK hj
   exact iS (ih _ h1 hz) (step j _ y hz hy)
  ·subst h1;exact step i x y hx hy
def Bl (a:aq):Prop:=∀ p∈a.2.2.2,p.1.length≤9223372036854775807
theorem gJ (a:aq) (hf:Bl a):gI a=some (gx a,()):=by
 unfold gI gx
 simp only[DT,Nu,Wt]
 cases rQ a.1 with
 | false=>rfl
 | true=>
 cases rQ a.2.1 with
 | false=>rfl
 | true=>
 simp only[UB,WD,Bool.true_eq_false,WL]
 by_cases n_c1:¬(1≤a.2.2.1∧a.2.2.1≤3652059)
 ·rw[WG n_c1,WN n_c1];rfl
 have c1:=Decidable.of_not_not n_c1
 rw[WH c1,WM (by simpa using c1),UB,WD]
 by_cases c2:500<a.2.2.2.length
 ·rw[aZ (by omega),WN c2]
 rw[aX (by omega),WM c2]
 obtain⟨a1,a2,a3,l⟩:=a
 dsimp only at*
 rw[sR (f:=jw) (fun i=>(((l.length:Int),(i:Int),a1,a2,a3,l,()):jx)) l (nK l) (a1,a2,a3,l,()) ?_ ?_ ?_ _ ?_]
 ·refine NY _ _ _ _ fun z=> ?_
  dsimp only
  rw[Ew (a1,a2,a3,l) (by dsimp only;omega) (EP z),Wt]
 ·rfl
 ·intro i y again hy
  have hi:=(Ve.1 hy).1
  unfold jw
  dsimp only
  rw[aZ (by omega),Ce l i y hy (by omega) (hf y (VG hy)),Wt,br (by omega) (by omega)]
  dsimp only
  by_cases hz:nK l i y=0
  ·rw[hz];rfl
  ·rw[show (nK l i y != 0)=true by simpa using hz,WE,WM hz]
 ·intro again
  unfold jw
  dsimp only
  rw[aX (by omega)]
 ·omega
end Go.Md
namespace Go.Md
open Go.Dn
structure ug (a:aq):Prop where
 len:a.2.2.2.length≤500
 asc:Asc (·.1) a.2.2.2
 n1:Mw a.2.2.2
 nl:vz a.2.2.2
theorem rM {a:aq} (h:gx a=0):ug a:=by
 unfold gx at h
 split at h
 ·omega
 split at h
 ·omega
 split at h
 ·omega
 split at h
 ·omega
 split at h
 ·omega
 rename_i h1 h2
 have h3:fQ (nK a.2.2.2) 0 a.2.2.2=0:=by omega
 unfold MF at h
 split at h
 ·omega
 rename_i h4
 split at h
 ·omega
 rename_i h5
 exact⟨by omega,EP h3,Hw (by omega),Hy (by omega)⟩
def lab (l:List ah) (i:Nat):List UInt8:=((l[i]?).map (·.1)).getD []
theorem KR {l:List ah} {i:Nat} {p:ah} (h:l[i]? =some p):lab l i=p.1:=by unfold lab;rw[h];rfl
theorem QV {l:List ah} (hs:Asc (·.1) l) {t:List UInt8} {T i:Nat} (hT:fG (·.1) t l=some T) (hi:i<l.length):lab l i=t↔i=T:=by
 have hp:l[i]? =some l[i]:=aK hi
 rw[KR hp]
 constructor
 ·intro h
  have:=Gm hs hp h
  rw[hT] at this;cases this;rfl
 ·rintro rfl
  obtain⟨x,h1,h2⟩:=kL hT
  rw[hp] at h1;cases h1;exact h2
theorem Lt {a:aq} (h:ug a) {i:Nat} (hi:i<a.2.2.2.length):gq a (i:Int)=some (cI (jc a.2.2.2 i),true,()):=by
 obtain⟨out,ok,g1,g2,g3⟩:=As a h.len h.asc h.n1 i hi
 have:ok=true:=by
  cases ok with
  | true=>rfl
  | false=>exact absurd (g2.1 rfl) (h.nl i hi)
 rw[g1,g3 h.nl,this]
theorem FT {a:aq} (h:ug a) {i T:Nat} (hi:i<a.2.2.2.length) {t:List UInt8} (hT:fG (·.1) t a.2.2.2=some T):rC a (i:Int) t=some (decide (T∈jc a.2.2.2 i),()):=by
 unfold rC mh pN
 rw[Lt h hi,Wt]
 dsimp only
 have hlt:∀ x∈jc a.2.2.2 i,x<a.2.2.2.length:=fun x hx=>OJ hx
 have hlen:=HK h.nl hi
 have hl:=h.len
 generalize jc a.2.2.2 i=L at*
 have loop:∀ f,L.length<f→∃ n:Int,iter f ((cI L,(a,t),((cI L).length:Int),(0:Int),()):fS) iC=(if T∈L then some (Sum.inl (n,())) else some (Sum.inr ()))∧0≤n:=by
  intro f hf
  refine cn (Inv:=fun c X=>X=((cI L,(a,t),((cI L).length:Int),(c:Int),()):fS)∧∀ j y,j<c→L[j]? =some y→y≠T) L.length
   (fun r=>∃ n:Int,r=(if T∈L then some (Sum.inl (n,())) else some (Sum.inr ()))∧0≤n) ?_ ?_ f 0 _ ⟨rfl,fun _ _ h=>absurd h (Wl _)⟩ (by omega) (by omega)
  ·rintro c _ again hc ⟨rfl,hb⟩ ih
   unfold iC td
   dsimp only
   have hy:L[c]? =some L[c]:=aK hc
   have hyl:=hlt _ (Vn hc)
   generalize L[c]=y at hy hyl
   have hy':(cI L)[c]? =some (y:Int):=by unfold cI;rw[Vf,hy];rfl
   have hp:a.2.2.2[y]? =some a.2.2.2[y]:=aK hyl
   rw[aZ (by rw[xM];omega),bN,hy',Wt,bN,hp,Wt,Wt]
   dsimp only
   have hle:=QV h.asc hT hyl
   rw[KR hp] at hle
   by_cases he:y=T
   ·rw[show (a.2.2.2[y].1==t)=true by simpa using hle.2 he,WE]
    exact⟨c,by rw[WN (he ▸ VG hy)],by omega⟩
   ·rw[show (a.2.2.2[y].1==t)=false by simpa using fun e=>he (hle.1 e),WD,br (by omega) (by omega)]
    refine ih _ ⟨rfl,fun j z hj hz=> ?_⟩
    rcases We.1 hj with h | h
    ·exact hb j z h hz
    ·subst h;rw[hy] at hz;cases hz;exact he
  ·rintro _ again ⟨rfl,hb⟩
   unfold iC
   dsimp only
   rw[aX (by rw[xM];omega)]
   refine⟨0, ?_,UG _⟩
   rw[WM]
   intro hm
   obtain⟨j,hj⟩:=VE.1 hm
   exact hb j T (Ve.1 hj).1 hj rfl
 obtain⟨n,h1,h2⟩:=loop (List.length (cI L)+(Int.natAbs ((List.length (cI L):Int))+(Int.natAbs (0:Int)+2))) (by rw[xM];omega)
 rw[h1]
 by_cases hm:T∈L
 ·rw[WN hm,rR,Wt,Wt,WH hm]
  congr 2
  exact WH h2
 ·rw[WM hm,bD,Wt,Wt,WG hm]
  rfl
theorem Hu:Bb=some (true,()):=by kernel_rfl
end Go.Md
