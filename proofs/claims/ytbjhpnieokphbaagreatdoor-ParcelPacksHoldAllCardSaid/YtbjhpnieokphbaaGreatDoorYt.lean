/-
  Plain facts: parcels. No condition.
-/
import Derived.Test.YtbjhpnieokphbaaGreatDoorYp
import Derived.Test.YtbjhpnieokphbaaGreatDoorYr
import Derived.Test.YtbjhpnieokphbaaGreatDoorYn
set_option linter.all false
namespace Go.Md
open Go.Dn
theorem vj:∀ (n:Nat) (l:List Nat),l.Nodup→(∀ x∈l,x<n)→l.length≤n
 | 0,l,_,h=>by
  cases l with
  | nil=>simp
  | cons a r=>exact absurd (h a (by simp)) (Wj _)
 | n+1,l,hd,h=>by
  by_cases hm:n∈l
  ·have h1:=vj n (l.erase n) (hd.erase n) (fun x hx=>by
    have:=(hd.mem_erase_iff).1 hx
    have:=h x this.2
    omega)
   rw[List.length_erase_of_mem hm] at h1
   omega
  ·have:=vj n l hd (fun x hx=>by
    have h2:=h x hx
    have:x≠n:=fun e=>hm (e ▸ hx)
    omega)
   omega
def itp (par:Nat→Option Nat):Nat→Nat→Option Nat
 | 0,i=>some i
 | j+1,i=>(par i).bind (itp par j)
theorem IM {par:Nat→Option Nat}:∀ {a b i k:Nat},itp par a i=some k→itp par (a+b) i=itp par b k
 | 0,b,i,k,h=>by simp only[itp,Option.some.injEq] at h;subst h;rw[Wo]
 | a+1,b,i,k,h=>by
  simp only[itp] at h
  rw[show a+1+b=(a+b)+1 by omega]
  simp only[itp]
  cases hp:par i with
  | none=>rw[hp] at h;cases h
  | some j=>rw[hp] at h;exact IM (a:=a) (by simpa using h)
def mU (par:Nat→Option Nat) (i:Nat):Prop:=∃ j,itp par (j+1) i=some i
def rj (par:Nat→Option Nat) (i k d:Nat):Prop:=itp par (d+1) k=some i∧∀ e,e<d→itp par (e+1) k≠some i
theorem rj.uniq {par:Nat→Option Nat} {i k d e:Nat} (h:rj par i k d) (h':rj par i k e):d=e:=by
 rcases Wc d e with h1 | h1 | h1
 ·exact absurd h.1 (h'.2 d h1)
 ·exact h1
 ·exact absurd h'.1 (h.2 e h1)
theorem rj.step {par:Nat→Option Nat} {i k d:Nat} (h:rj par i k d):∃ k',par k=some k'∧((k'=i∧d=0)∨(k'≠i∧∃ e,d=e+1∧rj par i k' e)):=by
 obtain⟨h1,h2⟩:=h
 simp only[itp] at h1
 cases hp:par k with
 | none=>rw[hp] at h1;cases h1
 | some k'=>
  rw[hp] at h1
  refine⟨k',rfl, ?_⟩
  cases d with
  | zero=>simp only[Wq,itp,Option.some.injEq] at h1;exact .inl ⟨h1,rfl⟩
  | succ e=>
   right
   refine⟨fun e1=> ?_,e,rfl,by simpa using h1,fun f hf hx=> ?_⟩
   ·refine h2 0 (by omega) ?_
    simp only[itp,hp,Wq,e1]
   ·refine h2 (f+1) (by omega) ?_
    rw[show f+1+1=(f+1)+1 from rfl]
    show (par k).bind (itp par (f+1))=some i
    rw[hp];exact hx
theorem mU.TE {par:Nat→Option Nat} {i:Nat} (h:mU par i):∃ d,rj par i i d:=by
 obtain⟨j,hj⟩:=h
 induction j using Nat.strongRecOn with
 | _ j ih=>
  by_cases hx:∃ e,e<j∧itp par (e+1) i=some i
  ·obtain⟨e,h1,h2⟩:=hx;exact ih e h1 h2
  ·exact⟨j,hj,fun e he h2=>hx ⟨e,he,h2⟩⟩
theorem rj.list {par:Nat→Option Nat} {i n:Nat} (hn:∀ k k',par k=some k'→k'<n):∀ {d k:Nat},k<n→rj par i k d→∃ l:List Nat,l.length=d+1∧l.Nodup∧(∀ x∈l,x<n)∧∀ x∈l,∃ e,e≤d∧rj par i x e
 | 0,k,hk,h=>⟨[k],rfl,by simp,by simpa using hk,fun x hx=>by simp at hx;subst hx;exact⟨0,V2 _,h⟩⟩
 | d+1,k,hk,h=>by
  obtain⟨k',h1,h2⟩:=h.step
  rcases h2 with ⟨_,h2⟩ | ⟨_,e,h2,h3⟩
  ·omega
  ·have:e=d:=by omega
   subst this
   obtain⟨l,l1,l2,l3,l4⟩:=rj.list hn (hn _ _ h1) h3
   refine⟨k::l,by simp[l1],VH.2 ⟨fun hm=> ?_,l2⟩,fun x hx=> ?_,fun x hx=> ?_⟩
   ·obtain⟨f,f1,f2⟩:=l4 k hm
    have:=f2.uniq h
    omega
   ·rcases Vu.1 hx with rfl | hx
    ·exact hk
    ·exact l3 x hx
   ·rcases Vu.1 hx with rfl | hx
    ·exact⟨e+1,V2 _,h⟩
    ·obtain⟨f,f1,f2⟩:=l4 x hx;exact⟨f,by omega,f2⟩
theorem rj.le {par:Nat→Option Nat} {i n d k:Nat} (hn:∀ k k',par k=some k'→k'<n) (hk:k<n) (h:rj par i k d):d+1≤n:=by
 obtain⟨l,l1,l2,l3,_⟩:=h.list hn hk
 have:=vj n l l2 l3
 omega
def anc (par:Nat→Option Nat):Nat→Nat→List Nat
 | 0,_=>[]
 | f+1,i=>match par i with
  | none=>[]
  | some k=>k::anc par f k
theorem tq {par:Nat→Option Nat} {f i k:Nat} (h:par i=some k):anc par (f+1) i=k::anc par f k:=by simp[anc,h]
theorem E2 {par:Nat→Option Nat} {i:Nat} (h:par i=none):∀ f,anc par f i=[]
 | 0=>rfl
 | f+1=>by simp[anc,h]
theorem NJ {par:Nat→Option Nat}:∀ {f i x:Nat},x∈anc par f i→∃ j,j<f∧itp par (j+1) i=some x
 | 0,_,_,h=>by simp[anc] at h
 | f+1,i,x,h=>by
  cases hp:par i with
  | none=>simp[anc,hp] at h
  | some k=>
   rw[tq hp] at h
   rcases Vu.1 h with rfl | h
   ·exact⟨0,by omega,by simp[itp,hp]⟩
   ·obtain⟨j,h1,h2⟩:=NJ h
    exact⟨j+1,by omega,by show (par i).bind (itp par (j+1))=some x;rw[hp];exact h2⟩
theorem Lb {par:Nat→Option Nat} {n:Nat} (hn:∀ k k',par k=some k'→k'<n):∀ {f i x:Nat},x∈anc par f i→x<n
 | 0,_,_,h=>by simp[anc] at h
 | f+1,i,x,h=>by
  cases hp:par i with
  | none=>simp[anc,hp] at h
  | some k=>
   rw[tq hp] at h
   rcases Vu.1 h with rfl | h
   ·exact hn _ _ hp
   ·exact Lb hn h
theorem Ck {par:Nat→Option Nat} {n:Nat} (hn:∀ k k',par k=some k'→k'<n) (hl:∀ k,k<n→¬ mU par k):∀ {f i:Nat},i<n→(i::anc par f i).Nodup
 | 0,i,_=>by simp[anc]
 | f+1,i,hi=>by
  rw[VH]
  refine⟨fun hm=> ?_, ?_⟩
  ·obtain⟨j,_,hj⟩:=NJ hm
   exact hl i hi ⟨j,hj⟩
  ·cases hp:par i with
   | none=>simp[anc,hp]
   | some k=>
    rw[tq hp]
    exact Ck hn hl (hn _ _ hp)
theorem RV {par:Nat→Option Nat} {n:Nat} (hn:∀ k k',par k=some k'→k'<n) (hl:∀ k,k<n→¬ mU par k) {f i:Nat} (hi:i<n):(anc par f i).length<n:=by
 have:=vj n (i::anc par f i) (Ck hn hl hi) (fun x hx=>by
  rcases Vu.1 hx with rfl | hx
  ·exact hi
  ·exact Lb hn hx)
 simp at this;omega
theorem JD {par:Nat→Option Nat}:∀ {f g i:Nat},(anc par f i).length<f→f≤g→anc par g i=anc par f i
 | 0,_,_,h,_=>by simp[anc] at h
 | f+1,g,i,h,hg=>by
  obtain⟨g,rfl⟩:∃ g',g=g'+1:=⟨g - 1,by omega⟩
  cases hp:par i with
  | none=>rw[E2 hp,E2 hp]
  | some k=>
   rw[tq hp] at h ⊢
   rw[tq hp]
   rw[JD (f:=f) (by simpa using h) (by omega)]
end Go.Md
namespace Go.Md
open Go.Dn
theorem qC (l:List Int) (x:Int) (hl:l.length<1000000000):fU l x=some (decide (x∈l),()):=by
 unfold fU rE
 have loop:∀ f,l.length<f→∃ n:Int,iter f ((l,x,(l.length:Int),(0:Int),()):fV) jv=(if x∈l then some (Sum.inl (n,())) else some (Sum.inr ()))∧0≤n:=by
  intro f hf
  refine bJ (Inv:=fun i X=>X=((l,x,(l.length:Int),(i:Int),()):fV)∧∀ j y,j<i→l[j]? =some y→y≠x) l.length
   (fun r=>∃ n:Int,r=(if x∈l then some (Sum.inl (n,())) else some (Sum.inr ()))∧0≤n) ?_ ?_ f 0 _ ⟨rfl,fun _ _ h=>absurd h (Wj _)⟩ (by omega) (by omega)
  ·rintro i _ again hi ⟨rfl,hb⟩ ih
   unfold jv
   dsimp only
   have hy:l[i]? =some l[i]:=az hi
   generalize l[i]=y at hy
   rw[aG (by omega),bF,hy,Wq]
   by_cases he:x=y
   ·rw[show (x==y)=true by simpa using he,WD]
    exact⟨i,by rw[WQ (he ▸ VA hy)],by omega⟩
   ·rw[show (x==y)=false by simpa using he,WC,ax (by omega) (by omega)]
    refine ih _ ⟨rfl,fun j z hj hz=> ?_⟩
    rcases Wa.1 hj with h | h
    ·exact hb j z h hz
    ·subst h;rw[hy] at hz;cases hz;exact fun e=>he e.symm
  ·rintro _ again ⟨rfl,hb⟩
   unfold jv
   dsimp only
   rw[aN (by omega)]
   refine⟨0, ?_,Up _⟩
   rw[WO]
   intro hm
   obtain⟨j,hj⟩:=Vy.1 hm
   exact hb j x (U7.1 hj).1 hj rfl
 obtain⟨n,h1,h2⟩:=loop (List.length l+(Int.natAbs x+(Int.natAbs ((List.length l:Int))+(Int.natAbs (0:Int)+2)))) (by omega)
 rw[h1]
 by_cases hm:x∈l
 ·rw[WQ hm,eS,Wq,WH hm]
  congr 2
  exact WH h2
 ·rw[WO hm,aU,Wq,WG hm]
  rfl
def gw (c:UInt8):Bool:=decide (48≤c.toNat)&&decide (c.toNat≤57)
theorem LI {c:UInt8}:(decide ((c.toNat:Int)<48)=false∧decide ((c.toNat:Int)>57)=false)↔gw c=true:=by
 simp only[gw,T9,WI,decide_eq_false_iff_not]
 omega
theorem yN (s:List UInt8) (hs:s.length≤9223372036854775807):ov s=some (decide (s≠[])&&s.all gw,()):=by
 unfold ov zi
 by_cases h0:s=[]
 ·subst h0;rfl
 ·rw[show (!(s==[]))=true by cases s<;>simp_all,WD,WH h0,Un]
  have loop:∀ f,s.length<f→iter f ((s,(48:Int),(57:Int),(s.length:Int),(0:Int),()):lp) pq=(if s.all gw=true then some (Sum.inr ()) else some (Sum.inl (false,()))):=by
   intro f hf
   refine bJ (Inv:=fun i X=>X=((s,(48:Int),(57:Int),(s.length:Int),(i:Int),()):lp)∧(s.take i).all gw=true) s.length
    (fun r=>r=(if s.all gw=true then some (Sum.inr ()) else some (Sum.inl (false,())))) ?_ ?_ f 0 _ ⟨rfl,by simp⟩ (by omega) (by omega)
   ·rintro i _ again hi ⟨rfl,hb⟩ ih
    unfold pq
    dsimp only
    have hy:s[i]? =some s[i]:=az hi
    have hym:s[i]∈s:=Vh hi
    generalize s[i]=y at hy hym
    rw[aG (by omega),FX hy,Wq,Wq,ax (by omega) (by omega)]
    cases hd:gw y with
    | true=>
     obtain⟨h1,h2⟩:=LI.2 hd
     rw[h1,h2,WC,WC]
     refine ih _ ⟨rfl, ?_⟩
     rw[nt hy]
     simp[hb,hd]
    | false=>
     have hall:s.all gw=false:=by
      rw[List.all_eq_false]
      exact⟨y,hym,by simp[hd]⟩
     rw[hall]
     cases h1:decide ((y.toNat:Int)<48) with
     | true=>rfl
     | false=>
      cases h2:decide ((y.toNat:Int)>57) with
      | true=>rfl
      | false=>have:=LI.1 ⟨h1,h2⟩;rw[hd] at this;cases this
   ·rintro _ again ⟨rfl,hb⟩
    unfold pq
    dsimp only
    rw[aN (by omega)]
    rw[VQ (V2 _)] at hb
    rw[WQ hb]
  rw[loop _ (by omega)]
  cases s.all gw<;>rfl
theorem NF (s:List UInt8) (hs:s.length≤100):∃ b,vu s=some (b,()):=by
 unfold vu
 have loop:∀ f,s.length<f→∃ n:Int,iter f ((s,(0:Int),(s.length:Int),(0:Int),()):fE) iY=some (Sum.inr (n,())):=by
  intro f hf
  refine bJ (Inv:=fun i X=>∃ n:Int,X=((s,n,(s.length:Int),(i:Int),()):fE)) s.length
   (fun r=>∃ n:Int,r=some (Sum.inr (n,()))) ?_ ?_ f 0 _ ⟨0,rfl⟩ (by omega) (by omega)
  ·rintro i _ again hi ⟨n,rfl⟩ ih
   unfold iY
   dsimp only
   have e:w64 (w64 ((s.length:Int) - 1) - (i:Int))=((s.length - 1 - i:Nat):Int):=by
    rw[ax (n:=(s.length:Int) - 1) (by omega) (by omega),ax (by omega) (by omega)];omega
   have hy:s[s.length - 1 - i]? =some (s[s.length - 1 - i]'(by omega)):=az (by omega)
   rw[aG (by omega),e,FX hy,Wq,ax (n:=(i:Int)+1) (by omega) (by omega)]
   cases (Int.tmod (i:Int) 2==1) with
   | true=>rw[WD];exact ih _ ⟨_,rfl⟩
   | false=>rw[WC];exact ih _ ⟨_,rfl⟩
  ·rintro _ again ⟨n,rfl⟩
   unfold iY
   dsimp only
   rw[aN (by omega)]
   exact⟨n,rfl⟩
 obtain⟨n,h⟩:=loop (List.length s+(Int.natAbs (0:Int)+(Int.natAbs ((List.length s:Int))+(Int.natAbs (0:Int)+2)))) (by omega)
 rw[h]
 exact⟨_,rfl⟩
def lbl (s:List UInt8):Bool:=decide (s.length=18)&&(s.all gw&&((vu s).map (·.1)).getD false)
theorem wh (s:List UInt8) (hs:s.length≤9223372036854775807):lI s=some (lbl s,()):=by
 unfold lI nT jG gH tj
 rw[eU,Wq,Wq]
 dsimp only
 rw[show (!(!(decide ((3:Int)<1∨(5:Int)<3))))=false by decide,WC,show ((3:Int)==4)=false from rfl,show ((3:Int)==5)=false from rfl,show ((3:Int)==1)=false from rfl,show ((3:Int)==2)=false from rfl]
 simp only[WC,Wq]
 rw[qC _ _ (by decide),Wq,yN s hs]
 unfold lbl
 by_cases hl:s.length=18
 ·obtain⟨b,hb⟩:=NF s (by omega)
  have hb2:w9 s=some (b,()):=hb
  have hne:s≠[]:=fun e=>by subst e;cases hl
  rw[WH (show (s.length:Int)∈[18] by simp;omega),WD,Wq,WH hne,Un,WH hl,Un,hb2,hb]
  cases s.all gw<;>simp
 ·rw[WG (show ¬ (s.length:Int)∈[18] by simp;omega),WG hl]
  rfl
def qOk (d:ai) (zero:Bool):Bool:=inR d 0 1000000000 3&&(!(d.1==0)||zero)
theorem Hr {d:ai} (hd:cA d):sK d 3 1000000000=some (inR d 0 1000000000 3,()):=by
 unfold sK
 have hp:=Du d.2.toNat
 have hp2:(10:Int) ^ d.2.toNat≤1000000000:=by
  have:=Wm (n:=10) (by omega) (show d.2.toNat≤9 by have:=hd.2.2;omega)
  have h2:=Uw.2 this
  simpa using h2
 rw[I6 d.2 hd.2.1 (by have:=hd.2.2;omega)]
 have e:inR d 0 1000000000 3=(decide (d.2≤3)&&(decide (d.1≥0)&&decide (d.1≤1000000000*10 ^ d.2.toNat))):=by
  unfold inR
  rw[← Bool.decide_and, ← Bool.decide_and,WE,Int.zero_mul]
  constructor
  ·rintro⟨_,h2,h3,h4⟩;exact⟨h2,h3,h4⟩
  ·rintro⟨h2,h3,h4⟩;exact⟨hd,h2,h3,h4⟩
 rw[e,Wq,ax (n:=1000000000*10 ^ d.2.toNat) (by omega) (by omega)]
 cases decide (d.2≤3)<;>cases decide (d.1≥0)<;>cases decide (d.1≤1000000000*10 ^ d.2.toNat)<;>rfl
theorem kM (d:ai) (z:Bool):cc d z=some (if qOk d z=true then 0 else 1,()):=by
 unfold cc qOk
 rw[ym,Wq]
 by_cases hd:cA d
 ·rw[Hr hd,WQ hd]
  dsimp only
  rw[show ((0:Int) != 0)=false from rfl,WC,Wq]
  cases inR d 0 1000000000 3<;>cases (d.1==0)<;>cases z<;>rfl
 ·have:inR d 0 1000000000 3=false:=by unfold inR;simp[hd]
  simp[hd,this]
end Go.Md
namespace Go.Md
open Go.Dn
theorem HZ (l:List aa) (t:List UInt8) (hl:l.length<1000000000) (hs:Asc (·.1) l):
 ∃ i:Nat,cg l t ()=some ((i:Int),(ff (·.1) t l).isSome,())∧∀ k,ff (·.1) t l=some k→i=k:=by
 unfold cg
 have loop:∀ f,l.length<f→∃ i:Nat,iter f ((l,t,(),(l.length:Int),(0:Int),(l.length:Int),()):bK) cS=some (Sum.inr (l,t,(),(l.length:Int),(i:Int),()))∧i≤l.length∧(∀ k x,l[k]? =some x→k<i→Op.bytesLess x.1 t=true)∧∀ k x,l[k]? =some x→i≤k→Op.bytesLess x.1 t=false:=by
  intro f hf
  refine rV (Inv:=fun X=>∃ i j:Nat,X=((l,t,(),(l.length:Int),(i:Int),(j:Int),()):bK)∧i≤j∧j≤l.length∧(∀ k x,l[k]? =some x→k<i→Op.bytesLess x.1 t=true)∧∀ k x,l[k]? =some x→j≤k→Op.bytesLess x.1 t=false)
   (fun X=>(X.2.2.2.2.2.1 - X.2.2.2.2.1).toNat)
   (fun _ r=>∃ i:Nat,r=some (Sum.inr (l,t,(),(l.length:Int),(i:Int),()))∧i≤l.length∧(∀ k x,l[k]? =some x→k<i→Op.bytesLess x.1 t=true)∧∀ k x,l[k]? =some x→i≤k→Op.bytesLess x.1 t=false) ?_ f _ ⟨0,l.length,rfl,by omega,by omega,fun _ _ _ h=>absurd h (Wj _),fun k x hk hle=>by have:=(U7.1 hk).1;omega⟩ (by dsimp only;omega)
  rintro _ again ⟨i,j,rfl,hij,hj,h1,h2⟩ ih
  dsimp only at ih
  unfold cS
  dsimp only
  by_cases hlt:i<j
  ·rw[aG (by omega)]
   have em:w64 (Int.fdiv (bL (w64 ((i:Int)+(j:Int)))) (2 ^ 1))=(((i+j) / 2:Nat):Int):=by
    rw[ax (n:=(i:Int)+(j:Int)) (by omega) (by omega),cE (by omega) (by omega),Uo _ (by omega),ax (by omega) (by omega)]
    omega
   rw[em]
   have hm:(i+j) / 2<l.length:=by omega
   have hy:l[(i+j) / 2]? =some l[(i+j) / 2]:=az hm
   have hmi:i≤(i+j) / 2∧(i+j) / 2<j:=by omega
   generalize (i+j) / 2=m at*
   generalize l[m]=y at hy
   rw[bF,hy,Wq]
   show ∃ i,Option.bind (Option.bind (some (Lib.compareBytes y.1 t,())) fun r1=>some (r1.1,())) _=_∧_
   rw[Wq,Wq]
   dsimp only
   by_cases hc:Lib.compareBytes y.1 t<0
   ·rw[aG hc,ax (by omega) (by omega)]
    refine ih _ ⟨m+1,j,rfl,by omega,hj,fun k x hk hkm=> ?_,h2⟩ (by dsimp only;omega)
    rcases Wa.1 hkm with h | h
    ·have:=hs k m x y h hk hy
     exact kF this (tw.1 hc)
    ·subst h;rw[hy] at hk;cases hk;exact tw.1 hc
   ·rw[aN hc]
    refine ih _ ⟨i,m,rfl,by omega,by omega,h1,fun k x hk hkm=> ?_⟩ (by dsimp only;omega)
    have hc':Op.bytesLess y.1 t=false:=by
     cases h:Op.bytesLess y.1 t with
     | false=>rfl
     | true=>exact absurd (tw.2 h) hc
    rcases V7 hkm with h | h
    ·cases hx:Op.bytesLess x.1 t with
     | false=>rfl
     | true=>rw[kF (hs m k y x h hy hk) hx] at hc';cases hc'
    ·subst h;rw[hy] at hk;cases hk;exact hc'
  ·rw[aN (by omega)]
   have:i=j:=by omega
   subst this
   exact⟨i,rfl,hj,h1,h2⟩
 obtain⟨i,h1,h2,h3,h4⟩:=loop (List.length l+(List.length t+(Int.natAbs ((List.length l:Int))+(Int.natAbs (0:Int)+(Int.natAbs ((List.length l:Int))+2))))) (by omega)
 refine⟨i, ?_,fun k hk=> ?_⟩
 ·rw[h1,aU]
  dsimp only
  by_cases hi:i<l.length
  ·have hy:l[i]? =some l[i]:=az hi
   generalize l[i]=y at hy
   rw[aG (by omega),bF,hy,Wq]
   show Option.bind (Option.bind (some (Lib.compareBytes y.1 t,())) fun r1=>some (r1.1,())) _=_
   rw[Wq,Wq]
   congr 3
   by_cases he:y.1=t
   ·rw[NR hs hy he,uY.2 he];rfl
   ·have hne:¬ Lib.compareBytes y.1 t=0:=fun h=>he (uY.1 h)
    rw[show (Lib.compareBytes y.1 t==0)=false by simpa using hne]
    cases hx:ff (·.1) t l with
    | none=>rfl
    | some k=>
     exfalso
     obtain⟨x,k1,k2⟩:=rW hx
     rcases Wc k i with h | h | h
     ·have:=h3 k x k1 h;rw[k2,dJ] at this;cases this
     ·subst h;rw[hy] at k1;cases k1;exact he k2
     ·have:=hs i k y x h hy k1
      dsimp only at this
      rw[k2,h4 i y hy (V2 _)] at this;cases this
  ·rw[aN (by omega)]
   congr 3
   cases hx:ff (·.1) t l with
   | none=>rfl
   | some k=>
    exfalso
    obtain⟨x,k1,k2⟩:=rW hx
    have:=h3 k x k1 (by have:=(U7.1 k1).1;omega)
    rw[k2,dJ] at this;cases this
 ·obtain⟨x,k1,k2⟩:=rW hk
  rcases Wc k i with h | h | h
  ·have:=h3 k x k1 h;rw[k2,dJ] at this;cases this
  ·exact h.symm
  ·have hy:l[i]? =some (l[i]'(by have:=(U7.1 k1).1;omega)):=az _
   have:=hs i k _ x h hy k1
   dsimp only at this
   rw[k2,h4 i _ hy (V2 _)] at this;cases this
theorem oE (a:bg) (t:List UInt8) (hl:a.2.2.2.length<1000000000) (hs:Asc (·.1) a.2.2.2):
 ∃ i:Nat,gO a t=some ((i:Int),(ff (·.1) t a.2.2.2).isSome,())∧∀ k,ff (·.1) t a.2.2.2=some k→i=k:=by
 obtain⟨i,h1,h2⟩:=HZ a.2.2.2 t hl hs
 exact⟨i,by unfold gO;rw[h1,Wq],h2⟩
def Ll (a b:aX):Int:=dy (fun _ y=>y) 0 [Lib.compareBytes a.1 b.1,Lib.compareBytes a.2.1 b.2.1,Lib.compareBytes a.2.2.1 b.2.2.1]
theorem PN (l:List Int) (hl:l.length<1000):wA l=some (dy (fun _ y=>y) 0 l,()):=by
 unfold wA
 rw[me (f:=qJ) (fun i=>(((0:Int),l,(l.length:Int),(i:Int),()):qK)) l (fun _ y=>y) (0,()) ?_ ?_ ?_ _ ?_]
 ·exact (Te _ _ _ 0 rfl).trans (by
   by_cases h:dy (fun _ y=>y) 0 l=0
   ·rw[WO (by simpa using h),h]
   ·rw[WQ h])
 ·rfl
 ·intro i y again hy
  have hi:=(U7.1 hy).1
  unfold qJ
  dsimp only
  rw[aG (by omega),bF,hy,Wq,ax (by omega) (by omega)]
  by_cases h:y=0
  ·subst h;rfl
  ·rw[show (y != 0)=true by simpa using h,WD,WO h]
 ·intro again
  unfold qJ
  dsimp only
  rw[aN (by omega)]
 ·omega
theorem wI (a b:aX):ew a b=some (Ll a b,()):=by
 unfold ew strings_Compare Ll
 simp only[Wq]
 rw[PN _ (by simp),Wq]
def Hz (l:List aX) (i:Nat) (y:aX):Bool:=match i with
 | 0=>false
 | i+1=>match l[i]? with
  | some p=>decide (Ll p y≥0)
  | none=>false
def DM (l:List aX) (i:Nat) (c:aX):Int:=
 if dS c.1=false then 5 else if dS c.2.1=false then 5 else if (!(c.2.2.1==[])&& !dS c.2.2.1)=true then 5
 else if Hz l i c=true then 8 else if qOk c.2.2.2 false=true then 0 else 1
def uZ (l:List aX):Int:=if 100<l.length then 2 else dy (DM l) 0 l
theorem J6 {α:Type} {l:List α} {i:Nat} (hi:i<l.length) (hl:l.length<1000000000):idx l (w64 (((i+1:Nat):Int) - 1))=l[i]? :=by
 rw[ax (by omega) (by omega),show ((i+1:Nat):Int) - 1=((i:Nat):Int) by omega,bF]
theorem yC (l:List aX):fD l=some (uZ l,()):=by
 unfold fD uZ
 by_cases hb:100<l.length
 ·rw[aG (by omega),WQ hb]
 ·rw[aN (by omega),WO hb]
  rw[me (f:=fO) (fun i=>((l,l,(l.length:Int),(i:Int),()):fP)) l (DM l) () ?_ ?_ ?_ _ ?_]
  ·exact Pn _ _
  ·rfl
  ·intro i y again hy
   have hi:=(U7.1 hy).1
   unfold fO
   dsimp only
   rw[aG (by omega),bF,hy,Wq]
   simp only[qL,Wq,kM,wI]
   have hw:w64 ((i:Int)+1)=((i+1:Nat):Int):=by rw[ax (by omega) (by omega)];omega
   rw[hw]
   unfold DM
   generalize qOk y.2.2.2 false=q
   cases i with
   | zero=>
    simp only[Hz]
    cases dS y.1<;>cases dS y.2.1<;>cases (y.2.2.1==[])<;>cases dS y.2.2.1<;>cases q<;>simp
   | succ i=>
    have hp:l[i]? =some (l[i]'(by omega)):=az (by omega)
    have ep:Hz l (i+1) y=decide (Ll (l[i]'(by omega)) y≥0):=by simp only[Hz,hp]
    have hpos:decide (((i+1:Nat):Int)>0)=true:=by simp
    rw[J6 (by omega) (by omega),hp,ep,hpos]
    simp only[Wq,WD]
    generalize decide (Ll (l[i]'(by omega)) y≥0)=p
    cases dS y.1<;>cases dS y.2.1<;>cases (y.2.2.1==[])<;>cases dS y.2.2.1<;>cases q<;>cases p<;>simp
  ·intro again
   unfold fO
   dsimp only
   rw[aN (by omega)]
  ·omega
def Bg (l:List aa) (i:Nat) (y:aa):Bool:=match i with
 | 0=>false
 | i+1=>match l[i]? with
  | some p=>Op.bytesLess y.1 p.1||y.1==p.1
  | none=>false
def kU (l:List aa) (i:Nat) (p:aa):Int:=
 if lbl p.1=false then 3 else if Bg l i p=true then 8 else if qOk p.2.2.1 true=false then 1 else uZ p.2.2.2
theorem Aj (l:List aa) (i:Nat) (y:aa) (hy:l[i]? =some y) (hl:l.length<1000000000) (hs:y.1.length≤9223372036854775807):kg l (i:Int)=some (kU l i y,()):=by
 have hi:=(U7.1 hy).1
 unfold kg kU
 rw[bF,hy,Wq,wh _ hs]
 simp only[Wq,kM,yC]
 cases i with
 | zero=>
  simp only[Bg]
  cases lbl y.1<;>cases qOk y.2.2.1 true<;>simp
 | succ i=>
  have hp:l[i]? =some (l[i]'(by omega)):=az (by omega)
  have ep:Bg l (i+1) y=(Op.bytesLess y.1 (l[i]'(by omega)).1||y.1==(l[i]'(by omega)).1):=by simp only[Bg,hp]
  have hpos:decide (((i+1:Nat):Int)>0)=true:=by simp
  rw[J6 (by omega) hl,hp,ep,hpos]
  simp only[Wq,WD]
  generalize (Op.bytesLess y.1 (l[i]'(by omega)).1||y.1==(l[i]'(by omega)).1)=p
  cases lbl y.1<;>cases qOk y.2.2.1 true<;>cases p<;>simp
end Go.Md
namespace Go.Md
open Go.Dn
def par (l:List aa) (k:Nat):Option Nat:=match l[k]? with
 | some p=>if p.2.1=[] then none else ff (·.1) p.2.1 l
 | none=>none
theorem Hv {l:List aa} {k k':Nat} (h:par l k=some k'):k'<l.length:=by
 unfold par at h
 split at h
 ·split at h
  ·cases h
  ·obtain⟨x,hx,_⟩:=rW h
   exact (U7.1 hx).1
 ·cases h
def KU (l:List aa):Prop:=∀ p∈l,p.2.1=[]∨(ff (·.1) p.2.1 l).isSome=true
theorem Si {l:List aa} {k:Nat} {p:aa} (h1:KU l) (hp:l[k]? =some p):(p.2.1=[]∧par l k=none)∨(p.2.1≠[]∧∃ k',par l k=some k'∧ff (·.1) p.2.1 l=some k'):=by
 unfold par
 rw[hp]
 dsimp only
 by_cases h:p.2.1=[]
 ·exact .inl ⟨h,by rw[WQ h]⟩
 ·right
  rw[WO h]
  rcases h1 p (VA hp) with h2 | h2
  ·exact absurd h2 h
  ·obtain⟨k',hk'⟩:=Wt.1 h2
   exact⟨h,k',hk',hk'⟩
def sr (l:List aa):Prop:=∀ k,k<l.length→¬ mU (par l) k
def lg (l:List aa) (i:Nat):List Nat:=anc (par l) l.length i
theorem La {l:List aa} (h:sr l) {i:Nat} (hi:i<l.length):(lg l i).length<l.length:=RV (fun _ _=>Hv) h hi
theorem JC {l:List aa} (h:sr l) {i k:Nat} (hi:i<l.length) (hp:par l i=some k):lg l i=k::lg l k:=by
 have h1:=La h hi
 unfold lg at*
 rw[← JD h1 (show l.length≤l.length+1 by omega),tq hp]
theorem JB {l:List aa} {i:Nat} (hp:par l i=none):lg l i=[]:=E2 hp _
theorem RU {l:List aa} {i x:Nat} (h:x∈lg l i):x<l.length:=Lb (fun _ _=>Hv) h
theorem Ot {l:List aa} (h:sr l) {i:Nat} (hi:i<l.length):(i::lg l i).Nodup:=Ck (fun _ _=>Hv) h hi
def cI (l:List Nat):List Int:=l.map (fun n:Nat=>(n:Int))
theorem PI {l:List Nat} {x:Nat}:(x:Int)∈cI l↔x∈l:=by
 unfold cI
 rw[Vz]
 constructor
 ·rintro⟨a,h1,h2⟩;have:a=x:=by omega
  exact this ▸ h1
 ·intro h;exact⟨x,h,rfl⟩
theorem uW (l:List Nat):(cI l).length=l.length:=by simp[cI]
theorem xP (a:bg) (hl:a.2.2.2.length≤500) (hs:Asc (·.1) a.2.2.2) (h1:KU a.2.2.2) (i:Nat) (hi:i<a.2.2.2.length):
 ∃ (out:List Nat) (ok:Bool),gU a (i:Int)=some (cI out,ok,())∧(ok=false↔mU (par a.2.2.2) i)∧(sr a.2.2.2→out=lg a.2.2.2 i):=by
 unfold gU
 have hat:=fun t=>oE a t (by omega) hs
 obtain⟨a1,a2,a3,l⟩:=a
 dsimp only at*
 have loop:∀ f,l.length+1<f→∃ (out:List Nat) (ok:Bool),(iter f (((i:Int),([]:List Int),(i:Int),a1,a2,a3,l,()):fZ) mw=(if ok=true then (some (Sum.inr (cI out,())):Option eM) else some (Sum.inl (cI out,false,())))∨(ok=true∧iter f (((i:Int),([]:List Int),(i:Int),a1,a2,a3,l,()):fZ) mw=(some (Sum.inl (cI out,true,())):Option eM)))∧(ok=false↔mU (par l) i)∧(sr l→out=lg l i):=by
  intro f hf
  refine rV (Inv:=fun X=>∃ (out:List Nat) (k:Nat),X=(((i:Int),cI out,(k:Int),a1,a2,a3,l,()):fZ)∧k<l.length∧out.Nodup∧(∀ x∈out,x<l.length)∧(∃ j,itp (par l) j i=some k)∧(mU (par l) i→∃ d,rj (par l) i k d∧∀ x∈out,∃ e,d≤e∧rj (par l) i x e)∧(sr l→out++lg l k=lg l i))
   (fun X=>l.length+1 - X.2.1.length)
   (fun _ r=>∃ (out:List Nat) (ok:Bool),(r=(if ok=true then (some (Sum.inr (cI out,())):Option eM) else some (Sum.inl (cI out,false,())))∨(ok=true∧r=(some (Sum.inl (cI out,true,())):Option eM)))∧(ok=false↔mU (par l) i)∧(sr l→out=lg l i)) ?_ f _
   ⟨[],i,rfl,hi,by simp,by simp,⟨0,rfl⟩,fun hon=>by obtain⟨d,hd⟩:=hon.TE;exact⟨d,hd,by simp⟩,fun _=>by simp⟩ (by dsimp only;simp;omega)
  rintro _ again ⟨out,k,rfl,hk,hnd,hlt,⟨j,hj⟩,hon,hno⟩ ih
  dsimp only at ih
  have hlen:=vj l.length out hnd hlt
  unfold mw
  dsimp only
  have hy:l[k]? =some l[k]:=az hk
  generalize l[k]=p at hy
  rw[bF,hy,Wq,Wq]
  rcases Si h1 hy with ⟨g1,g2⟩ | ⟨g1,k',g2,g3⟩
  ·rw[g1]
   refine⟨out,true,.inl rfl, ?_,fun hn=> ?_⟩
   ·constructor
    ·intro h;cases h
    ·intro h
     obtain⟨d,hd,_⟩:=hon h
     obtain⟨k',e,_⟩:=hd.step
     rw[g2] at e;cases e
   ·have:=hno hn
    rw[JB g2,List.append_nil] at this
    exact this
  ·have hk':=Hv g2
   rw[show (!(p.2.1==[]))=true by cases hp:p.2.1<;>simp_all,WD]
   obtain⟨q,hq1,hq2⟩:=hat p.2.1
   have:q=k':=hq2 k' g3
   subst this
   rw[hq1,Wq]
   dsimp only
   by_cases e1:q=i
   ·subst e1
    rw[show ((q:Int)==(q:Int))=true by simp,WD]
    have hloop:mU (par l) q:=⟨j,by rw[IM (b:=1) hj];simp[itp,g2]⟩
    exact⟨[],false,.inl rfl,⟨fun _=>hloop,fun _=>rfl⟩,fun hn=>absurd hloop (hn q hi)⟩
   ·rw[show ((q:Int)==(i:Int))=false by rw[Wy];omega,WC,qC _ _ (by rw[uW];omega),Wq]
    by_cases e2:q∈out
    ·rw[WH (PI.2 e2),WD]
     refine⟨out,true,.inr ⟨rfl,rfl⟩,⟨fun h=>(by cases h),fun h=> ?_⟩,fun hn=> ?_⟩
     ·obtain⟨d,hd,hx⟩:=hon h
      obtain⟨k2,e,h2⟩:=hd.step
      rw[g2] at e;cases e
      rcases h2 with ⟨h2,_⟩ | ⟨_,e,he,h3⟩
      ·exact absurd h2 e1
      ·obtain⟨f',hf',hx'⟩:=hx q e2
       have:=h3.uniq hx'
       omega
     ·exfalso
      have h3:=hno hn
      have h4:=(VH.1 (Ot hn hi)).2
      rw[← h3,JC hn hk g2,List.nodup_append] at h4
      exact h4.2.2 q e2 q (by simp) rfl
    ·rw[WG (fun h=>e2 (PI.1 h)),WC,bn (nA (by rw[uW];omega) (by rw[uW];omega))]
     refine ih _ ⟨out++[q],q,by simp[cI],hk', ?_, ?_,⟨j+1, ?_⟩,fun h=> ?_,fun hn=> ?_⟩ (by simp[uW];omega)
     ·rw[List.nodup_append]
      exact⟨hnd,by simp,fun x hx y hy=>by simp at hy;subst hy;exact fun e=>e2 (e ▸ hx)⟩
     ·intro x hx
      rcases Vt.1 hx with hx | hx
      ·exact hlt x hx
      ·simp at hx;omega
     ·rw[IM (b:=1) hj];simp[itp,g2]
     ·obtain⟨d,hd,hx⟩:=hon h
      obtain⟨k2,e,h2⟩:=hd.step
      rw[g2] at e;cases e
      rcases h2 with ⟨h2,_⟩ | ⟨_,e,he,h3⟩
      ·exact absurd h2 e1
      ·refine⟨e,h3,fun x hx2=> ?_⟩
       rcases Vt.1 hx2 with hx2 | hx2
       ·obtain⟨f',hf',hx'⟩:=hx x hx2;exact⟨f',by omega,hx'⟩
       ·simp at hx2;subst hx2;exact⟨e,V2 _,h3⟩
     ·rw[← hno hn,JC hn hk g2,UK];rfl
 obtain⟨out,ok,h2,h3,h4⟩:=loop (Int.natAbs (i:Int)+(List.length ([]:List Int)+(Int.natAbs (i:Int)+(List.length a1+(List.length a2+(Int.natAbs a3+(List.length l+2))))))) (by omega)
 refine⟨out,ok, ?_,h3,h4⟩
 rcases h2 with h2 | ⟨h5,h2⟩
 ·rw[h2]
  cases ok<;>rfl
 ·rw[h2,h5];rfl
end Go.Md
namespace Go.Md
open Go.Dn
def n1 (l:List aa) (p:aa):Int:=if p.2.1≠[]∧(ff (·.1) p.2.1 l).isSome=false then 9 else 0
open Classical in
noncomputable def n2 (l:List aa) (i:Nat):Int:=if mU (par l) i then 17 else 0
def n3 (l:List aa) (i:Nat):Int:=if 5<(lg l i).length then 2 else 0
def He (l:List aa):Int:=dy (fun _ p=>n1 l p) 0 l
noncomputable def Hf (l:List aa):Int:=dy (fun i _=>n2 l i) 0 l
def Qu (l:List aa):Int:=dy (fun i _=>n3 l i) 0 l
noncomputable def Hg (l:List aa):Int:=if He l≠0 then He l else if Hf l≠0 then Hf l else Qu l
theorem EV {l:List aa} (h:He l=0):KU l:=by
 intro p hp
 obtain⟨i,hi⟩:=Vy.1 hp
 have:=iI h i p hi
 unfold n1 at this
 by_cases h1:p.2.1=[]
 ·exact .inl h1
 ·cases h2:(ff (fun x:aa=>x.1) p.2.1 l).isSome with
  | true=>exact .inr rfl
  | false=>rw[WQ ⟨h1,h2⟩] at this;omega
theorem EW {l:List aa} (h:Hf l=0):sr l:=by
 intro k hk hon
 have:=iI h k l[k] (az hk)
 unfold n2 at this
 rw[Wo,WQ hon] at this
 omega
theorem Mu {γ:Type} (s:Int) (u:γ) (k:γ→Option (Int×Unit)) (z:Int) (hk:s=0→k u=some (z,())):bw (β:=Int×Unit) (γ:=γ) (if s=0 then some (Sum.inr u) else some (Sum.inl (s,()))) k=some (if s≠0 then s else z,()):=by
 by_cases h:s=0
 ·rw[WQ h,aU,hk h,WO (by simpa using h)]
 ·rw[WO h,eS,WQ h]
theorem Tf {γ:Type} (s:Int) (u:γ):bw (β:=Int×Unit) (γ:=γ) (if s=0 then some (Sum.inr u) else some (Sum.inl (s,()))) (fun _=>some (0,()))=some (s,()):=Pn s u
theorem Cd (a:bg) (hl:a.2.2.2.length≤500) (hs:Asc (·.1) a.2.2.2):mA a=some (Hg a.2.2.2,()):=by
 unfold mA Hg
 have hat:=fun t=>oE a t (by omega) hs
 have har:=fun h1 i hi=>xP a hl hs h1 i hi
 obtain⟨a1,a2,a3,l⟩:=a
 dsimp only at*
 rw[me (f:=jl) (fun i=>((l,(l.length:Int),(i:Int),a1,a2,a3,l,()):jq)) l (fun _ p=>n1 l p) (a1,a2,a3,l,()) ?_ ?_ ?_ _ ?_]
 ·refine Mu _ _ _ _ fun z1=> ?_
  have h1:=EV z1
  dsimp only
  rw[me (f:=jm) (fun i=>(((l.length:Int),(i:Int),a1,a2,a3,l,()):jr)) l (fun i _=>n2 l i) (a1,a2,a3,l,()) ?_ ?_ ?_ _ ?_]
  ·refine Mu _ _ _ _ fun z2=> ?_
   have h2:=EW z2
   dsimp only
   rw[me (f:=iG) (fun i=>(((l.length:Int),(i:Int),a1,a2,a3,l,()):iH)) l (fun i _=>n3 l i) () ?_ ?_ ?_ _ ?_]
   ·exact Tf _ _
   ·rfl
   ·intro i y again hy
    have hi:=(U7.1 hy).1
    unfold iG
    dsimp only
    obtain⟨out,ok,g1,g2,g3⟩:=har h1 i hi
    rw[aG (by omega),g1,Wq,ax (by omega) (by omega)]
    dsimp only
    rw[g3 h2,uW]
    unfold n3
    by_cases h5:5<(lg l i).length
    ·rw[aG (by omega),WQ h5,WO (by omega)]
    ·rw[aN (by omega),WO h5,WQ rfl];rfl
   ·intro again
    unfold iG
    dsimp only
    rw[aN (by omega)]
   ·omega
  ·rfl
  ·intro i y again hy
   have hi:=(U7.1 hy).1
   unfold jm
   dsimp only
   obtain⟨out,ok,g1,g2,g3⟩:=har h1 i hi
   rw[aG (by omega),g1,Wq,ax (by omega) (by omega)]
   dsimp only
   unfold n2
   by_cases hon:mU (par l) i
   ·rw[g2.2 hon,WQ hon,WO (by omega)];rfl
   ·have:ok=true:=by
     cases ok with
     | true=>rfl
     | false=>exact absurd (g2.1 rfl) hon
    rw[this,WO hon,WQ rfl];rfl
  ·intro again
   unfold jm
   dsimp only
   rw[aN (by omega)]
  ·omega
 ·rfl
 ·intro i y again hy
  have hi:=(U7.1 hy).1
  unfold jl
  dsimp only
  obtain⟨q,hq1,hq2⟩:=hat y.2.1
  rw[aG (by omega),bF,hy,Wq,hq1,Wq,ax (by omega) (by omega)]
  dsimp only
  by_cases e1:y.2.1=[]
  ·have hn:n1 l y=0:=by unfold n1;rw[WO (fun h=>h.1 e1)]
   rw[hn,WQ rfl,e1];rfl
  ·rw[show (!(y.2.1==[]))=true by cases hp:y.2.1<;>simp_all,WD]
   cases h2:(ff (fun x:aa=>x.1) y.2.1 l).isSome with
   | true=>
    have hn:n1 l y=0:=by unfold n1;rw[WO (fun h=>by rw[h2] at h;exact absurd h.2 (by simp))]
    rw[hn,WQ rfl];rfl
   | false=>
    have hn:n1 l y=9:=by unfold n1;rw[WQ ⟨e1,h2⟩]
    rw[hn,WO (by omega)];rfl
 ·intro again
  unfold jl
  dsimp only
  rw[aN (by omega)]
 ·omega
noncomputable def pT (a:bg):Int:=
 if dS a.1=false then 5 else if dS a.2.1=false then 5 else if ¬(1≤a.2.2.1∧a.2.2.1≤3652059) then 1
 else if 500<a.2.2.2.length then 2 else if dy (kU a.2.2.2) 0 a.2.2.2≠0 then dy (kU a.2.2.2) 0 a.2.2.2 else Hg a.2.2.2
theorem Cs {l:List aa} (h:dy (kU l) 0 l=0):Asc (·.1) l:=by
 have step:∀ i x y,l[i]? =some x→l[i+1]? =some y→Op.bytesLess x.1 y.1=true:=fun i x y hx hy=>by
  have:=iI h (i+1) y hy
  rw[Wo] at this
  unfold kU at this
  split at this
  ·omega
  ·split at this
   ·omega
   ·rename_i h2
    have h3:Bg l (i+1) y=false:=by simpa using h2
    simp only[Bg,hx,Ul,Wy] at h3
    rcases Ct x.1 y.1 with h1 | h1 | h1
    ·exact h1
    ·exact absurd h1.symm h3.2
    ·rw[h3.1] at h1;cases h1
 intro i j x y hij hx hy
 induction j generalizing y with
 | zero=>omega
 | succ j ih=>
  rcases Wa.1 hij with h1 | h1
  ·have hj:j<l.length:=by have:=(U7.1 hy).1;omega
   have hz:l[j]? =some l[j]:=az hj
   exact kF (ih _ h1 hz) (step j _ y hz hy)
  ·subst h1;exact step i x y hx hy
def Oi (a:bg):Prop:=∀ p∈a.2.2.2,p.1.length≤9223372036854775807
theorem lE (a:bg) (hf:Oi a):gC a=some (pT a,()):=by
 unfold gC pT
 simp only[qL,L2,Wq]
 cases dS a.1 with
 | false=>rfl
 | true=>
 cases dS a.2.1 with
 | false=>rfl
 | true=>
 simp only[Uk,WC,Bool.true_eq_false,WN]
 by_cases n_c1:¬(1≤a.2.2.1∧a.2.2.1≤3652059)
 ·rw[WG n_c1,WQ n_c1];rfl
 have c1:=Decidable.of_not_not n_c1
 rw[WH c1,WO (by simpa using c1),Uk,WC]
 by_cases c2:500<a.2.2.2.length
 ·rw[aG (by omega),WQ c2]
 rw[aN (by omega),WO c2]
 obtain⟨a1,a2,a3,l⟩:=a
 dsimp only at*
 rw[me (f:=gJ) (fun i=>(((l.length:Int),(i:Int),a1,a2,a3,l,()):gK)) l (kU l) (a1,a2,a3,l,()) ?_ ?_ ?_ _ ?_]
 ·refine Mu _ _ _ _ fun z=> ?_
  dsimp only
  rw[Cd (a1,a2,a3,l) (by dsimp only;omega) (Cs z),Wq]
 ·rfl
 ·intro i y again hy
  have hi:=(U7.1 hy).1
  unfold gJ
  dsimp only
  rw[aG (by omega),Aj l i y hy (by omega) (hf y (VA hy)),Wq,ax (by omega) (by omega)]
  dsimp only
  by_cases hz:kU l i y=0
  ·rw[hz];rfl
  ·rw[show (kU l i y != 0)=true by simpa using hz,WD,WO hz]
 ·intro again
  unfold gJ
  dsimp only
  rw[aN (by omega)]
 ·omega
end Go.Md
namespace Go.Md
open Go.Dn
structure F3 (a:bg):Prop where
 len:a.2.2.2.length≤500
 asc:Asc (·.1) a.2.2.2
 n1:KU a.2.2.2
 nl:sr a.2.2.2
theorem Jy {a:bg} (h:pT a=0):F3 a:=by
 unfold pT at h
 split at h
 ·omega
 split at h
 ·omega
 split at h
 ·omega
 split at h
 ·omega
 split at h
 ·omega
 rename_i h1 h2
 have h3:dy (kU a.2.2.2) 0 a.2.2.2=0:=by omega
 unfold Hg at h
 split at h
 ·omega
 rename_i h4
 split at h
 ·omega
 rename_i h5
 exact⟨by omega,Cs h3,EV (by omega),EW (by omega)⟩
def lab (l:List aa) (i:Nat):List UInt8:=((l[i]?).map (·.1)).getD []
theorem IP {l:List aa} {i:Nat} {p:aa} (h:l[i]? =some p):lab l i=p.1:=by unfold lab;rw[h];rfl
theorem Qj {l:List aa} (hs:Asc (·.1) l) {t:List UInt8} {T i:Nat} (hT:ff (·.1) t l=some T) (hi:i<l.length):lab l i=t↔i=T:=by
 have hp:l[i]? =some l[i]:=az hi
 rw[IP hp]
 constructor
 ·intro h
  have:=NR hs hp h
  rw[hT] at this;cases this;rfl
 ·rintro rfl
  obtain⟨x,h1,h2⟩:=rW hT
  rw[hp] at h1;cases h1;exact h2
theorem Pz {a:bg} (h:F3 a) {i:Nat} (hi:i<a.2.2.2.length):gU a (i:Int)=some (cI (lg a.2.2.2 i),true,()):=by
 obtain⟨out,ok,g1,g2,g3⟩:=xP a h.len h.asc h.n1 i hi
 have:ok=true:=by
  cases ok with
  | true=>rfl
  | false=>exact absurd (g2.1 rfl) (h.nl i hi)
 rw[g1,g3 h.nl,this]
theorem Dt {a:bg} (h:F3 a) {i T:Nat} (hi:i<a.2.2.2.length) {t:List UInt8} (hT:ff (·.1) t a.2.2.2=some T):nY a (i:Int) t=some (decide (T∈lg a.2.2.2 i),()):=by
 unfold nY jC mC
 rw[Pz h hi,Wq]
 dsimp only
 have hlt:∀ x∈lg a.2.2.2 i,x<a.2.2.2.length:=fun x hx=>RU hx
 have hlen:=La h.nl hi
 have hl:=h.len
 generalize lg a.2.2.2 i=L at*
 have loop:∀ f,L.length<f→∃ n:Int,iter f ((cI L,(a,t),((cI L).length:Int),(0:Int),()):dR) fQ=(if T∈L then some (Sum.inl (n,())) else some (Sum.inr ()))∧0≤n:=by
  intro f hf
  refine bJ (Inv:=fun c X=>X=((cI L,(a,t),((cI L).length:Int),(c:Int),()):dR)∧∀ j y,j<c→L[j]? =some y→y≠T) L.length
   (fun r=>∃ n:Int,r=(if T∈L then some (Sum.inl (n,())) else some (Sum.inr ()))∧0≤n) ?_ ?_ f 0 _ ⟨rfl,fun _ _ h=>absurd h (Wj _)⟩ (by omega) (by omega)
  ·rintro c _ again hc ⟨rfl,hb⟩ ih
   unfold fQ pY
   dsimp only
   have hy:L[c]? =some L[c]:=az hc
   have hyl:=hlt _ (Vh hc)
   generalize L[c]=y at hy hyl
   have hy':(cI L)[c]? =some (y:Int):=by unfold cI;rw[U8,hy];rfl
   have hp:a.2.2.2[y]? =some a.2.2.2[y]:=az hyl
   rw[aG (by rw[uW];omega),bF,hy',Wq,bF,hp,Wq,Wq]
   dsimp only
   have hle:=Qj h.asc hT hyl
   rw[IP hp] at hle
   by_cases he:y=T
   ·rw[show (a.2.2.2[y].1==t)=true by simpa using hle.2 he,WD]
    exact⟨c,by rw[WQ (he ▸ VA hy)],by omega⟩
   ·rw[show (a.2.2.2[y].1==t)=false by simpa using fun e=>he (hle.1 e),WC,ax (by omega) (by omega)]
    refine ih _ ⟨rfl,fun j z hj hz=> ?_⟩
    rcases Wa.1 hj with h | h
    ·exact hb j z h hz
    ·subst h;rw[hy] at hz;cases hz;exact he
  ·rintro _ again ⟨rfl,hb⟩
   unfold fQ
   dsimp only
   rw[aN (by rw[uW];omega)]
   refine⟨0, ?_,Up _⟩
   rw[WO]
   intro hm
   obtain⟨j,hj⟩:=Vy.1 hm
   exact hb j T (U7.1 hj).1 hj rfl
 obtain⟨n,h1,h2⟩:=loop (List.length (cI L)+(Int.natAbs ((List.length (cI L):Int))+(Int.natAbs (0:Int)+2))) (by rw[uW];omega)
 rw[h1]
 by_cases hm:T∈L
 ·rw[WQ hm,eS,Wq,Wq,WH hm]
  congr 2
  exact WH h2
 ·rw[WO hm,aU,Wq,Wq,WG hm]
  rfl
theorem ET:yO=some (true,()):=by kernel_rfl
end Go.Md
