/-
  Plain facts: parcels. No condition.
-/
import Derived.Test.YtilaijcbckgmmaaGreatDoorYp
import Derived.Test.YtilaijcbckgmmaaGreatDoorYr
import Derived.Test.YtilaijcbckgmmaaGreatDoorYn
set_option linter.all false
namespace Go.Md
open Go.Dn
theorem yN:∀ (n:Nat) (l:List Nat),l.Nodup→(∀ x∈l,x<n)→l.length≤n
 | 0,l,_,h=>by
  cases l with
  | nil=>simp
  | cons a r=>exact absurd (h a (by simp)) (YZ _)
 | n+1,l,hd,h=>by
  by_cases hm:n∈l
  ·have h1:=yN n (l.erase n) (hd.erase n) (fun x hx=>by
    have:=(hd.mem_erase_iff).1 hx
    have:=h x this.2
    omega)
   rw[List.length_erase_of_mem hm] at h1
   omega
  ·have:=yN n l hd (fun x hx=>by
    have h2:=h x hx
    have:x≠n:=fun e=>hm (e ▸ hx)
    omega)
   omega
def itp (par:Nat→Option Nat):Nat→Nat→Option Nat
 | 0,i=>some i
 | j+1,i=>(par i).bind (itp par j)
theorem Ln {par:Nat→Option Nat}:∀ {a b i k:Nat},itp par a i=some k→itp par (a+b) i=itp par b k
 | 0,b,i,k,h=>by simp only[itp,Option.some.injEq] at h;subst h;rw[Y4]
 | a+1,b,i,k,h=>by
  simp only[itp] at h
  rw[show a+1+b=(a+b)+1 by omega]
  simp only[itp]
  cases hp:par i with
  | none=>rw[hp] at h;cases h
  | some j=>rw[hp] at h;exact Ln (a:=a) (by simpa using h)
def qh (par:Nat→Option Nat) (i:Nat):Prop:=∃ j,itp par (j+1) i=some i
def u5 (par:Nat→Option Nat) (i k d:Nat):Prop:=itp par (d+1) k=some i∧∀ e,e<d→itp par (e+1) k≠some i
theorem u5.uniq {par:Nat→Option Nat} {i k d e:Nat} (h:u5 par i k d) (h':u5 par i k e):d=e:=by
 rcases YU d e with h1 | h1 | h1
 ·exact absurd h.1 (h'.2 d h1)
 ·exact h1
 ·exact absurd h'.1 (h.2 e h1)
theorem u5.step {par:Nat→Option Nat} {i k d:Nat} (h:u5 par i k d):∃ k',par k=some k'∧((k'=i∧d=0)∨(k'≠i∧∃ e,d=e+1∧u5 par i k' e)):=by
 obtain⟨h1,h2⟩:=h
 simp only[itp] at h1
 cases hp:par k with
 | none=>rw[hp] at h1;cases h1
 | some k'=>
  rw[hp] at h1
  refine⟨k',rfl, ?_⟩
  cases d with
  | zero=>simp only[Y7,itp,Option.some.injEq] at h1;exact .inl ⟨h1,rfl⟩
  | succ e=>
   right
   refine⟨fun e1=> ?_,e,rfl,by simpa using h1,fun f hf hx=> ?_⟩
   ·refine h2 0 (by omega) ?_
    simp only[itp,hp,Y7,e1]
   ·refine h2 (f+1) (by omega) ?_
    rw[show f+1+1=(f+1)+1 from rfl]
    show (par k).bind (itp par (f+1))=some i
    rw[hp];exact hx
theorem qh.Wg {par:Nat→Option Nat} {i:Nat} (h:qh par i):∃ d,u5 par i i d:=by
 obtain⟨j,hj⟩:=h
 induction j using Nat.strongRecOn with
 | _ j ih=>
  by_cases hx:∃ e,e<j∧itp par (e+1) i=some i
  ·obtain⟨e,h1,h2⟩:=hx;exact ih e h1 h2
  ·exact⟨j,hj,fun e he h2=>hx ⟨e,he,h2⟩⟩
theorem u5.list {par:Nat→Option Nat} {i n:Nat} (hn:∀ k k',par k=some k'→k'<n):∀ {d k:Nat},k<n→u5 par i k d→∃ l:List Nat,l.length=d+1∧l.Nodup∧(∀ x∈l,x<n)∧∀ x∈l,∃ e,e≤d∧u5 par i x e
 | 0,k,hk,h=>⟨[k],rfl,by simp,by simpa using hk,fun x hx=>by simp at hx;subst hx;exact⟨0,YM _,h⟩⟩
 | d+1,k,hk,h=>by
  obtain⟨k',h1,h2⟩:=h.step
  rcases h2 with ⟨_,h2⟩ | ⟨_,e,h2,h3⟩
  ·omega
  ·have:e=d:=by omega
   subst this
   obtain⟨l,l1,l2,l3,l4⟩:=u5.list hn (hn _ _ h1) h3
   refine⟨k::l,by simp[l1],List.nodup_cons.2 ⟨fun hm=> ?_,l2⟩,fun x hx=> ?_,fun x hx=> ?_⟩
   ·obtain⟨f,f1,f2⟩:=l4 k hm
    have:=f2.uniq h
    omega
   ·rcases Yc.1 hx with rfl | hx
    ·exact hk
    ·exact l3 x hx
   ·rcases Yc.1 hx with rfl | hx
    ·exact⟨e+1,YM _,h⟩
    ·obtain⟨f,f1,f2⟩:=l4 x hx;exact⟨f,by omega,f2⟩
theorem u5.le {par:Nat→Option Nat} {i n d k:Nat} (hn:∀ k k',par k=some k'→k'<n) (hk:k<n) (h:u5 par i k d):d+1≤n:=by
 obtain⟨l,l1,l2,l3,_⟩:=h.list hn hk
 have:=yN n l l2 l3
 omega
def anc (par:Nat→Option Nat):Nat→Nat→List Nat
 | 0,_=>[]
 | f+1,i=>match par i with
  | none=>[]
  | some k=>k::anc par f k
theorem u6 {par:Nat→Option Nat} {f i k:Nat} (h:par i=some k):anc par (f+1) i=k::anc par f k:=by simp[anc,h]
theorem C0 {par:Nat→Option Nat} {i:Nat} (h:par i=none):∀ f,anc par f i=[]
 | 0=>rfl
 | f+1=>by simp[anc,h]
theorem Qy {par:Nat→Option Nat}:∀ {f i x:Nat},x∈anc par f i→∃ j,j<f∧itp par (j+1) i=some x
 | 0,_,_,h=>by simp[anc] at h
 | f+1,i,x,h=>by
  cases hp:par i with
  | none=>simp[anc,hp] at h
  | some k=>
   rw[u6 hp] at h
   rcases Yc.1 h with rfl | h
   ·exact⟨0,by omega,by simp[itp,hp]⟩
   ·obtain⟨j,h1,h2⟩:=Qy h
    exact⟨j+1,by omega,by show (par i).bind (itp par (j+1))=some x;rw[hp];exact h2⟩
theorem NO {par:Nat→Option Nat} {n:Nat} (hn:∀ k k',par k=some k'→k'<n):∀ {f i x:Nat},x∈anc par f i→x<n
 | 0,_,_,h=>by simp[anc] at h
 | f+1,i,x,h=>by
  cases hp:par i with
  | none=>simp[anc,hp] at h
  | some k=>
   rw[u6 hp] at h
   rcases Yc.1 h with rfl | h
   ·exact hn _ _ hp
   ·exact NO hn h
theorem ET {par:Nat→Option Nat} {n:Nat} (hn:∀ k k',par k=some k'→k'<n) (hl:∀ k,k<n→¬ qh par k):∀ {f i:Nat},i<n→(i::anc par f i).Nodup
 | 0,i,_=>by simp[anc]
 | f+1,i,hi=>by
  rw[List.nodup_cons]
  refine⟨fun hm=> ?_, ?_⟩
  ·obtain⟨j,_,hj⟩:=Qy hm
   exact hl i hi ⟨j,hj⟩
  ·cases hp:par i with
   | none=>simp[anc,hp]
   | some k=>
    rw[u6 hp]
    exact ET hn hl (hn _ _ hp)
theorem UO {par:Nat→Option Nat} {n:Nat} (hn:∀ k k',par k=some k'→k'<n) (hl:∀ k,k<n→¬ qh par k) {f i:Nat} (hi:i<n):(anc par f i).length<n:=by
 have:=yN n (i::anc par f i) (ET hn hl hi) (fun x hx=>by
  rcases Yc.1 hx with rfl | hx
  ·exact hi
  ·exact NO hn hx)
 simp at this;omega
theorem Ma {par:Nat→Option Nat}:∀ {f g i:Nat},(anc par f i).length<f→f≤g→anc par g i=anc par f i
 | 0,_,_,h,_=>by simp[anc] at h
 | f+1,g,i,h,hg=>by
  obtain⟨g,rfl⟩:∃ g',g=g'+1:=⟨g - 1,by omega⟩
  cases hp:par i with
  | none=>rw[C0 hp,C0 hp]
  | some k=>
   rw[u6 hp] at h ⊢
   rw[u6 hp]
   rw[Ma (f:=f) (by simpa using h) (by omega)]
end Go.Md
namespace Go.Md
open Go.Dn
theorem uv (l:List Int) (x:Int) (hl:l.length<1000000000):jH l x=some (decide (x∈l),()):=by
 unfold jH vp
 have loop:∀ f,l.length<f→∃ n:Int,iter f ((l,x,(l.length:Int),(0:Int),()):jI) mB=(if x∈l then some (Sum.inl (n,())) else some (Sum.inr ()))∧0≤n:=by
  intro f hf
  refine bJ (Inv:=fun i X=>X=((l,x,(l.length:Int),(i:Int),()):jI)∧∀ j y,j<i→l[j]? =some y→y≠x) l.length
   (fun r=>∃ n:Int,r=(if x∈l then some (Sum.inl (n,())) else some (Sum.inr ()))∧0≤n) ?_ ?_ f 0 _ ⟨rfl,fun _ _ h=>absurd h (YZ _)⟩ (by omega) (by omega)
  ·rintro i _ again hi ⟨rfl,hb⟩ ih
   unfold mB
   dsimp only
   have hy:l[i]? =some l[i]:=aG hi
   generalize l[i]=y at hy
   rw[az (by omega),bA,hy,Y7]
   by_cases he:x=y
   ·rw[show (x==y)=true by simpa using he,Zk]
    exact⟨i,by rw[Zw (he ▸ Yj hy)],by omega⟩
   ·rw[show (x==y)=false by simpa using he,Zj,aj (by omega) (by omega)]
    refine ih _ ⟨rfl,fun j z hj hz=> ?_⟩
    rcases YS.1 hj with h | h
    ·exact hb j z h hz
    ·subst h;rw[hy] at hz;cases hz;exact fun e=>he e.symm
  ·rintro _ again ⟨rfl,hb⟩
   unfold mB
   dsimp only
   rw[aA (by omega)]
   refine⟨0, ?_,W0 _⟩
   rw[Zv]
   intro hm
   obtain⟨j,hj⟩:=Yh.1 hm
   exact hb j x (XN.1 hj).1 hj rfl
 obtain⟨n,h1,h2⟩:=loop (List.length l+(Int.natAbs x+(Int.natAbs ((List.length l:Int))+(Int.natAbs (0:Int)+2)))) (by omega)
 rw[h1]
 by_cases hm:x∈l
 ·rw[Zw hm,fR,Y7,Zo hm]
  congr 2
  exact Zo h2
 ·rw[Zv hm,aF,Y7,Zm hm]
  rfl
def xA (c:UInt8):Bool:=decide (48≤c.toNat)&&decide (c.toNat≤57)
theorem Od {c:UInt8}:(decide ((c.toNat:Int)<48)=false∧decide ((c.toNat:Int)>57)=false)↔xA c=true:=by
 simp only[xA,WJ,Zp,Zn]
 omega
theorem BB (s:List UInt8) (hs:s.length≤9223372036854775807):rQ s=some (decide (s≠[])&&s.all xA,()):=by
 unfold rQ B0
 by_cases h0:s=[]
 ·subst h0;rfl
 ·rw[show (!(s==[]))=true by cases s<;>simp_all,Zk,Zo h0,WY]
  have loop:∀ f,s.length<f→iter f ((s,(48:Int),(57:Int),(s.length:Int),(0:Int),()):ox) sU=(if s.all xA=true then some (Sum.inr ()) else some (Sum.inl (false,()))):=by
   intro f hf
   refine bJ (Inv:=fun i X=>X=((s,(48:Int),(57:Int),(s.length:Int),(i:Int),()):ox)∧(s.take i).all xA=true) s.length
    (fun r=>r=(if s.all xA=true then some (Sum.inr ()) else some (Sum.inl (false,())))) ?_ ?_ f 0 _ ⟨rfl,by simp⟩ (by omega) (by omega)
   ·rintro i _ again hi ⟨rfl,hb⟩ ih
    unfold sU
    dsimp only
    have hy:s[i]? =some s[i]:=aG hi
    have hym:s[i]∈s:=XW hi
    generalize s[i]=y at hy hym
    rw[az (by omega),O7 hy,Y7,Y7,aj (by omega) (by omega)]
    cases hd:xA y with
    | true=>
     obtain⟨h1,h2⟩:=Od.2 hd
     rw[h1,h2,Zj,Zj]
     refine ih _ ⟨rfl, ?_⟩
     rw[lg hy]
     simp[hb,hd]
    | false=>
     have hall:s.all xA=false:=by
      rw[List.all_eq_false]
      exact⟨y,hym,by simp[hd]⟩
     rw[hall]
     cases h1:decide ((y.toNat:Int)<48) with
     | true=>rfl
     | false=>
      cases h2:decide ((y.toNat:Int)>57) with
      | true=>rfl
      | false=>have:=Od.1 ⟨h1,h2⟩;rw[hd] at this;cases this
   ·rintro _ again ⟨rfl,hb⟩
    unfold sU
    dsimp only
    rw[aA (by omega)]
    rw[YB (YM _)] at hb
    rw[Zw hb]
  rw[loop _ (by omega)]
  cases s.all xA<;>rfl
theorem Qv (s:List UInt8) (hs:s.length≤100):∃ b,F4 s=some (b,()):=by
 unfold F4
 have loop:∀ f,s.length<f→∃ n:Int,iter f ((s,(0:Int),(s.length:Int),(0:Int),()):sj) wO=some (Sum.inr (n,())):=by
  intro f hf
  refine bJ (Inv:=fun i X=>∃ n:Int,X=((s,n,(s.length:Int),(i:Int),()):sj)) s.length
   (fun r=>∃ n:Int,r=some (Sum.inr (n,()))) ?_ ?_ f 0 _ ⟨0,rfl⟩ (by omega) (by omega)
  ·rintro i _ again hi ⟨n,rfl⟩ ih
   unfold wO
   dsimp only
   have e:w64 (w64 ((s.length:Int) - 1) - (i:Int))=((s.length - 1 - i:Nat):Int):=by
    rw[aj (n:=(s.length:Int) - 1) (by omega) (by omega),aj (by omega) (by omega)];omega
   have hy:s[s.length - 1 - i]? =some (s[s.length - 1 - i]'(by omega)):=aG (by omega)
   rw[az (by omega),e,O7 hy,Y7,aj (n:=(i:Int)+1) (by omega) (by omega)]
   cases (Int.tmod (i:Int) 2==1) with
   | true=>rw[Zk];exact ih _ ⟨_,rfl⟩
   | false=>rw[Zj];exact ih _ ⟨_,rfl⟩
  ·rintro _ again ⟨n,rfl⟩
   unfold wO
   dsimp only
   rw[aA (by omega)]
   exact⟨n,rfl⟩
 obtain⟨n,h⟩:=loop (List.length s+(Int.natAbs (0:Int)+(Int.natAbs ((List.length s:Int))+(Int.natAbs (0:Int)+2)))) (by omega)
 rw[h]
 exact⟨_,rfl⟩
def lbl (s:List UInt8):Bool:=decide (s.length=18)&&(s.all xA&&((F4 s).map (·.1)).getD false)
theorem zL (s:List UInt8) (hs:s.length≤9223372036854775807):oH s=some (lbl s,()):=by
 unfold oH q7 mL kI xm
 rw[jK,Y7,Y7]
 dsimp only
 rw[show (!(!(decide ((3:Int)<1∨(5:Int)<3))))=false by decide,Zj,show ((3:Int)==4)=false from rfl,show ((3:Int)==5)=false from rfl,show ((3:Int)==1)=false from rfl,show ((3:Int)==2)=false from rfl]
 simp only[Zj,Y7]
 rw[uv _ _ (by decide),Y7,BB s hs]
 unfold lbl
 by_cases hl:s.length=18
 ·obtain⟨b,hb⟩:=Qv s (by omega)
  have hb2:Ao s=some (b,()):=hb
  have hne:s≠[]:=fun e=>by subst e;cases hl
  rw[Zo (show (s.length:Int)∈[18] by simp;omega),Zk,Y7,Zo hne,WY,Zo hl,WY,hb2,hb]
  cases s.all xA<;>simp
 ·rw[Zm (show ¬ (s.length:Int)∈[18] by simp;omega),Zm hl]
  rfl
def qOk (d:ai) (zero:Bool):Bool:=inR d 0 1000000000 3&&(!(d.1==0)||zero)
theorem Kl {d:ai} (hd:bY d):wE d 3 1000000000=some (inR d 0 1000000000 3,()):=by
 unfold wE
 have hp:=FY d.2.toNat
 have hp2:(10:Int) ^ d.2.toNat≤1000000000:=by
  have:=Y2 (n:=10) (by omega) (show d.2.toNat≤9 by have:=hd.2.2;omega)
  have h2:=W9.2 this
  simpa using h2
 rw[LF d.2 hd.2.1 (by have:=hd.2.2;omega)]
 have e:inR d 0 1000000000 3=(decide (d.2≤3)&&(decide (d.1≥0)&&decide (d.1≤1000000000*10 ^ d.2.toNat))):=by
  unfold inR
  rw[← Bool.decide_and, ← Bool.decide_and,Zl,Int.zero_mul]
  constructor
  ·rintro⟨_,h2,h3,h4⟩;exact⟨h2,h3,h4⟩
  ·rintro⟨h2,h3,h4⟩;exact⟨hd,h2,h3,h4⟩
 rw[e,Y7,aj (n:=1000000000*10 ^ d.2.toNat) (by omega) (by omega)]
 cases decide (d.2≤3)<;>cases decide (d.1≥0)<;>cases decide (d.1≤1000000000*10 ^ d.2.toNat)<;>rfl
theorem nM (d:ai) (z:Bool):cc d z=some (if qOk d z=true then 0 else 1,()):=by
 unfold cc qOk
 rw[tr,Y7]
 by_cases hd:bY d
 ·rw[Kl hd,Zw hd]
  dsimp only
  rw[show ((0:Int) != 0)=false from rfl,Zj,Y7]
  cases inR d 0 1000000000 3<;>cases (d.1==0)<;>cases z<;>rfl
 ·have:inR d 0 1000000000 3=false:=by unfold inR;simp[hd]
  simp[hd,this]
end Go.Md
namespace Go.Md
open Go.Dn
theorem Ku (l:List aa) (t:List UInt8) (hl:l.length<1000000000):wJ l t=some (ixI (dR (·.1) t l),()):=by
 unfold wJ
 have loop:∀ f,l.length<f→iter f ((t,l,(l.length:Int),(0:Int),()):nt) ri=(match dR (·.1) t l with | some k=>some (Sum.inl ((k:Int),())) | none=>some (Sum.inr ())):=by
  intro f hf
  refine bJ (Inv:=fun i X=>X=((t,l,(l.length:Int),(i:Int),()):nt)∧∀ j x,j<i→l[j]? =some x→x.1≠t) l.length
   (fun r=>r=(match dR (·.1) t l with | some k=>some (Sum.inl ((k:Int),())) | none=>some (Sum.inr ()))) ?_ ?_ f 0 _ ⟨rfl,fun _ _ h=>absurd h (YZ _)⟩ (by omega) (by omega)
  ·rintro i _ again hi ⟨rfl,hb⟩ ih
   unfold ri
   dsimp only
   have hy:l[i]? =some l[i]:=aG hi
   generalize l[i]=y at hy
   rw[az (by omega),bA,hy,Y7]
   by_cases he:y.1=t
   ·rw[show (y.1==t)=true by simpa using he,Zk]
    have:dR (·.1) t l=some i:=by
     unfold dR
     rw[XC]
     refine⟨hi, ?_,fun j hj=> ?_⟩
     ·have:=(XN.1 hy).2
      rw[this];simpa using he
     ·have:=hb j l[j] hj (XL _)
      simpa using this
    rw[this]
   ·rw[show (y.1==t)=false by simpa using he,Zj,aj (by omega) (by omega)]
    refine ih _ ⟨rfl,fun j x hj hx=> ?_⟩
    rcases YS.1 hj with h | h
    ·exact hb j x h hx
    ·subst h;rw[hy] at hx;cases hx;exact he
  ·rintro _ again ⟨rfl,hb⟩
   unfold ri
   dsimp only
   rw[aA (by omega)]
   have:dR (·.1) t l=none:=by
    unfold dR
    rw[XB]
    intro x hx
    obtain⟨j,hj⟩:=Yh.1 hx
    have:=hb j x (XN.1 hj).1 hj
    simpa using this
   rw[this]
 rw[loop _ (by omega)]
 cases dR (·.1) t l<;>rfl
theorem KR (l:List aa) (t:List UInt8) (hl:l.length<1000000000) (hs:Asc (·.1) l):
 ∃ i:Nat,cG l t ()=some ((i:Int),(dR (·.1) t l).isSome,())∧∀ k,dR (·.1) t l=some k→i=k:=by
 unfold cG
 have loop:∀ f,l.length<f→∃ i:Nat,iter f ((l,t,(),(l.length:Int),(0:Int),(l.length:Int),()):bP) eN=some (Sum.inr (l,t,(),(l.length:Int),(i:Int),()))∧i≤l.length∧(∀ k x,l[k]? =some x→k<i→Op.bytesLess x.1 t=true)∧∀ k x,l[k]? =some x→i≤k→Op.bytesLess x.1 t=false:=by
  intro f hf
  refine yJ (Inv:=fun X=>∃ i j:Nat,X=((l,t,(),(l.length:Int),(i:Int),(j:Int),()):bP)∧i≤j∧j≤l.length∧(∀ k x,l[k]? =some x→k<i→Op.bytesLess x.1 t=true)∧∀ k x,l[k]? =some x→j≤k→Op.bytesLess x.1 t=false)
   (fun X=>(X.2.2.2.2.2.1 - X.2.2.2.2.1).toNat)
   (fun _ r=>∃ i:Nat,r=some (Sum.inr (l,t,(),(l.length:Int),(i:Int),()))∧i≤l.length∧(∀ k x,l[k]? =some x→k<i→Op.bytesLess x.1 t=true)∧∀ k x,l[k]? =some x→i≤k→Op.bytesLess x.1 t=false) ?_ f _ ⟨0,l.length,rfl,by omega,by omega,fun _ _ _ h=>absurd h (YZ _),fun k x hk hle=>by have:=(XN.1 hk).1;omega⟩ (by dsimp only;omega)
  rintro _ again ⟨i,j,rfl,hij,hj,h1,h2⟩ ih
  dsimp only at ih
  unfold eN
  dsimp only
  by_cases hlt:i<j
  ·rw[az (by omega)]
   have em:w64 (Int.fdiv (bK (w64 ((i:Int)+(j:Int)))) (2 ^ 1))=(((i+j) / 2:Nat):Int):=by
    rw[aj (n:=(i:Int)+(j:Int)) (by omega) (by omega),cR (by omega) (by omega),WZ _ (by omega),aj (by omega) (by omega)]
    omega
   rw[em]
   have hm:(i+j) / 2<l.length:=by omega
   have hy:l[(i+j) / 2]? =some l[(i+j) / 2]:=aG hm
   have hmi:i≤(i+j) / 2∧(i+j) / 2<j:=by omega
   generalize (i+j) / 2=m at*
   generalize l[m]=y at hy
   rw[bA,hy,Y7]
   show ∃ i,Option.bind (Option.bind (some (Lib.compareBytes y.1 t,())) fun r1=>some (r1.1,())) _=_∧_
   rw[Y7,Y7]
   dsimp only
   by_cases hc:Lib.compareBytes y.1 t<0
   ·rw[az hc,aj (by omega) (by omega)]
    refine ih _ ⟨m+1,j,rfl,by omega,hj,fun k x hk hkm=> ?_,h2⟩ (by dsimp only;omega)
    rcases YS.1 hkm with h | h
    ·have:=hs k m x y h hk hy
     exact iU this (pn.1 hc)
    ·subst h;rw[hy] at hk;cases hk;exact pn.1 hc
   ·rw[aA hc]
    refine ih _ ⟨i,m,rfl,by omega,by omega,h1,fun k x hk hkm=> ?_⟩ (by dsimp only;omega)
    have hc':Op.bytesLess y.1 t=false:=by
     cases h:Op.bytesLess y.1 t with
     | false=>rfl
     | true=>exact absurd (pn.2 h) hc
    rcases Nat.lt_or_eq_of_le hkm with h | h
    ·cases hx:Op.bytesLess x.1 t with
     | false=>rfl
     | true=>rw[iU (hs m k y x h hy hk) hx] at hc';cases hc'
    ·subst h;rw[hy] at hk;cases hk;exact hc'
  ·rw[aA (by omega)]
   have:i=j:=by omega
   subst this
   exact⟨i,rfl,hj,h1,h2⟩
 obtain⟨i,h1,h2,h3,h4⟩:=loop (List.length l+(List.length t+(Int.natAbs ((List.length l:Int))+(Int.natAbs (0:Int)+(Int.natAbs ((List.length l:Int))+2))))) (by omega)
 refine⟨i, ?_,fun k hk=> ?_⟩
 ·rw[h1,aF]
  dsimp only
  by_cases hi:i<l.length
  ·have hy:l[i]? =some l[i]:=aG hi
   generalize l[i]=y at hy
   rw[az (by omega),bA,hy,Y7]
   show Option.bind (Option.bind (some (Lib.compareBytes y.1 t,())) fun r1=>some (r1.1,())) _=_
   rw[Y7,Y7]
   congr 3
   by_cases he:y.1=t
   ·rw[Lp hs hy he,yy.2 he];rfl
   ·have hne:¬ Lib.compareBytes y.1 t=0:=fun h=>he (yy.1 h)
    rw[show (Lib.compareBytes y.1 t==0)=false by simpa using hne]
    cases hx:dR (·.1) t l with
    | none=>rfl
    | some k=>
     exfalso
     obtain⟨x,k1,k2⟩:=oO hx
     rcases YU k i with h | h | h
     ·have:=h3 k x k1 h;rw[k2,cr] at this;cases this
     ·subst h;rw[hy] at k1;cases k1;exact he k2
     ·have:=hs i k y x h hy k1
      dsimp only at this
      rw[k2,h4 i y hy (YM _)] at this;cases this
  ·rw[aA (by omega)]
   congr 3
   cases hx:dR (·.1) t l with
   | none=>rfl
   | some k=>
    exfalso
    obtain⟨x,k1,k2⟩:=oO hx
    have:=h3 k x k1 (by have:=(XN.1 k1).1;omega)
    rw[k2,cr] at this;cases this
 ·obtain⟨x,k1,k2⟩:=oO hk
  rcases YU k i with h | h | h
  ·have:=h3 k x k1 h;rw[k2,cr] at this;cases this
  ·exact h.symm
  ·have hy:l[i]? =some (l[i]'(by have:=(XN.1 k1).1;omega)):=aG _
   have:=hs i k _ x h hy k1
   dsimp only at this
   rw[k2,h4 i _ hy (YM _)] at this;cases this
theorem si (a:bn) (t:List UInt8) (hl:a.2.2.2.length<1000000000) (hs:Asc (·.1) a.2.2.2):
 ∃ i:Nat,kS a t=some ((i:Int),(dR (·.1) t a.2.2.2).isSome,())∧∀ k,dR (·.1) t a.2.2.2=some k→i=k:=by
 obtain⟨i,h1,h2⟩:=KR a.2.2.2 t hl hs
 exact⟨i,by unfold kS;rw[h1,Y7],h2⟩
def NV (a b:bz):Int:=cS (fun _ y=>y) 0 [Lib.compareBytes a.1 b.1,Lib.compareBytes a.2.1 b.2.1,Lib.compareBytes a.2.2.1 b.2.2.1]
theorem Mf (l:List Int) (hl:l.length<1000):vY l=some (cS (fun _ y=>y) 0 l,()):=by
 unfold vY
 rw[pF (f:=uG) (fun i=>(((0:Int),l,(l.length:Int),(i:Int),()):uH)) l (fun _ y=>y) (0,()) ?_ ?_ ?_ _ ?_]
 ·exact (VS _ _ _ 0 rfl).trans (by
   by_cases h:cS (fun _ y=>y) 0 l=0
   ·rw[Zv (by simpa using h),h]
   ·rw[Zw h])
 ·rfl
 ·intro i y again hy
  have hi:=(XN.1 hy).1
  unfold uG
  dsimp only
  rw[az (by omega),bA,hy,Y7,aj (by omega) (by omega)]
  by_cases h:y=0
  ·subst h;rfl
  ·rw[show (y != 0)=true by simpa using h,Zk,Zv h]
 ·intro again
  unfold uG
  dsimp only
  rw[aA (by omega)]
 ·omega
theorem zX (a b:bz):gX a b=some (NV a b,()):=by
 unfold gX strings_Compare NV
 simp only[Y7]
 rw[Mf _ (by simp),Y7]
def NG (l:List bz) (i:Nat) (y:bz):Bool:=match i with
 | 0=>false
 | i+1=>match l[i]? with
  | some p=>decide (NV p y≥0)
  | none=>false
def Jo (l:List bz) (i:Nat) (c:bz):Int:=
 if nI c.1=false then 5 else if nI c.2.1=false then 5 else if (!(c.2.2.1==[])&& !nI c.2.2.1)=true then 5
 else if NG l i c=true then 8 else if qOk c.2.2.2 false=true then 0 else 1
def vZ (l:List bz):Int:=if 100<l.length then 2 else cS (Jo l) 0 l
theorem FZ {α:Type} {l:List α} {i:Nat} (hi:i<l.length) (hl:l.length<1000000000):idx l (w64 (((i+1:Nat):Int) - 1))=l[i]? :=by
 rw[aj (by omega) (by omega),show ((i+1:Nat):Int) - 1=((i:Nat):Int) by omega,bA]
theorem Bs (l:List bz):je l=some (vZ l,()):=by
 unfold je vZ
 by_cases hb:100<l.length
 ·rw[az (by omega),Zw hb]
 ·rw[aA (by omega),Zv hb]
  rw[pF (f:=jB) (fun i=>((l,l,(l.length:Int),(i:Int),()):jC)) l (Jo l) () ?_ ?_ ?_ _ ?_]
  ·exact R9 _ _
  ·rfl
  ·intro i y again hy
   have hi:=(XN.1 hy).1
   unfold jB
   dsimp only
   rw[az (by omega),bA,hy,Y7]
   simp only[zo,Y7,nM,zX]
   have hw:w64 ((i:Int)+1)=((i+1:Nat):Int):=by rw[aj (by omega) (by omega)];omega
   rw[hw]
   unfold Jo
   generalize qOk y.2.2.2 false=q
   cases i with
   | zero=>
    simp only[NG]
    cases nI y.1<;>cases nI y.2.1<;>cases (y.2.2.1==[])<;>cases nI y.2.2.1<;>cases q<;>simp
   | succ i=>
    have hp:l[i]? =some (l[i]'(by omega)):=aG (by omega)
    have ep:NG l (i+1) y=decide (NV (l[i]'(by omega)) y≥0):=by simp only[NG,hp]
    have hpos:decide (((i+1:Nat):Int)>0)=true:=by simp
    rw[FZ (by omega) (by omega),hp,ep,hpos]
    simp only[Y7,Zk]
    generalize decide (NV (l[i]'(by omega)) y≥0)=p
    cases nI y.1<;>cases nI y.2.1<;>cases (y.2.2.1==[])<;>cases nI y.2.2.1<;>cases q<;>cases p<;>simp
  ·intro again
   unfold jB
   dsimp only
   rw[aA (by omega)]
  ·omega
def DM (l:List aa) (i:Nat) (y:aa):Bool:=match i with
 | 0=>false
 | i+1=>match l[i]? with
  | some p=>Op.bytesLess y.1 p.1||y.1==p.1
  | none=>false
def lJ (l:List aa) (i:Nat) (p:aa):Int:=
 if lbl p.1=false then 3 else if DM l i p=true then 8 else if qOk p.2.2.1 true=false then 1 else vZ p.2.2.2
theorem CL (l:List aa) (i:Nat) (y:aa) (hy:l[i]? =some y) (hl:l.length<1000000000) (hs:y.1.length≤9223372036854775807):nk l (i:Int)=some (lJ l i y,()):=by
 have hi:=(XN.1 hy).1
 unfold nk lJ
 rw[bA,hy,Y7,zL _ hs]
 simp only[Y7,nM,Bs]
 cases i with
 | zero=>
  simp only[DM]
  cases lbl y.1<;>cases qOk y.2.2.1 true<;>simp
 | succ i=>
  have hp:l[i]? =some (l[i]'(by omega)):=aG (by omega)
  have ep:DM l (i+1) y=(Op.bytesLess y.1 (l[i]'(by omega)).1||y.1==(l[i]'(by omega)).1):=by simp only[DM,hp]
  have hpos:decide (((i+1:Nat):Int)>0)=true:=by simp
  rw[FZ (by omega) hl,hp,ep,hpos]
  simp only[Y7,Zk]
  generalize (Op.bytesLess y.1 (l[i]'(by omega)).1||y.1==(l[i]'(by omega)).1)=p
  cases lbl y.1<;>cases qOk y.2.2.1 true<;>cases p<;>simp
end Go.Md
namespace Go.Md
open Go.Dn
def par (l:List aa) (k:Nat):Option Nat:=match l[k]? with
 | some p=>if p.2.1=[] then none else dR (·.1) p.2.1 l
 | none=>none
theorem Kp {l:List aa} {k k':Nat} (h:par l k=some k'):k'<l.length:=by
 unfold par at h
 split at h
 ·split at h
  ·cases h
  ·obtain⟨x,hx,_⟩:=oO h
   exact (XN.1 hx).1
 ·cases h
def Nu (l:List aa):Prop:=∀ p∈l,p.2.1=[]∨(dR (·.1) p.2.1 l).isSome=true
theorem U8 {l:List aa} {k:Nat} {p:aa} (h1:Nu l) (hp:l[k]? =some p):(p.2.1=[]∧par l k=none)∨(p.2.1≠[]∧∃ k',par l k=some k'∧dR (·.1) p.2.1 l=some k'):=by
 unfold par
 rw[hp]
 dsimp only
 by_cases h:p.2.1=[]
 ·exact .inl ⟨h,by rw[Zw h]⟩
 ·right
  rw[Zv h]
  rcases h1 p (Yj hp) with h2 | h2
  ·exact absurd h2 h
  ·obtain⟨k',hk'⟩:=Za.1 h2
   exact⟨h,k',hk',hk'⟩
def tV (l:List aa):Prop:=∀ k,k<l.length→¬ qh (par l) k
def lV (l:List aa) (i:Nat):List Nat:=anc (par l) l.length i
theorem NN {l:List aa} (h:tV l) {i:Nat} (hi:i<l.length):(lV l i).length<l.length:=UO (fun _ _=>Kp) h hi
theorem L9 {l:List aa} (h:tV l) {i k:Nat} (hi:i<l.length) (hp:par l i=some k):lV l i=k::lV l k:=by
 have h1:=NN h hi
 unfold lV at*
 rw[← Ma h1 (show l.length≤l.length+1 by omega),u6 hp]
theorem L8 {l:List aa} {i:Nat} (hp:par l i=none):lV l i=[]:=C0 hp _
theorem UN {l:List aa} {i x:Nat} (h:x∈lV l i):x<l.length:=NO (fun _ _=>Kp) h
theorem Rl {l:List aa} (h:tV l) {i:Nat} (hi:i<l.length):(i::lV l i).Nodup:=ET (fun _ _=>Kp) h hi
def cI (l:List Nat):List Int:=l.map (fun n:Nat=>(n:Int))
theorem Sw {l:List Nat} {x:Nat}:(x:Int)∈cI l↔x∈l:=by
 unfold cI
 rw[Yi]
 constructor
 ·rintro⟨a,h1,h2⟩;have:a=x:=by omega
  exact this ▸ h1
 ·intro h;exact⟨x,h,rfl⟩
theorem yw (l:List Nat):(cI l).length=l.length:=by simp[cI]
theorem AM (a:bn) (hl:a.2.2.2.length≤500) (hs:Asc (·.1) a.2.2.2) (h1:Nu a.2.2.2) (i:Nat) (hi:i<a.2.2.2.length):
 ∃ (out:List Nat) (ok:Bool),kW a (i:Int)=some (cI out,ok,())∧(ok=false↔qh (par a.2.2.2) i)∧(tV a.2.2.2→out=lV a.2.2.2 i):=by
 unfold kW
 have hat:=fun t=>si a t (by omega) hs
 obtain⟨a1,a2,a3,l⟩:=a
 dsimp only at*
 have loop:∀ f,l.length+1<f→∃ (out:List Nat) (ok:Bool),(iter f (((i:Int),([]:List Int),(i:Int),a1,a2,a3,l,()):jM) pL=(if ok=true then (some (Sum.inr (cI out,())):Option iJ) else some (Sum.inl (cI out,false,())))∨(ok=true∧iter f (((i:Int),([]:List Int),(i:Int),a1,a2,a3,l,()):jM) pL=(some (Sum.inl (cI out,true,())):Option iJ)))∧(ok=false↔qh (par l) i)∧(tV l→out=lV l i):=by
  intro f hf
  refine yJ (Inv:=fun X=>∃ (out:List Nat) (k:Nat),X=(((i:Int),cI out,(k:Int),a1,a2,a3,l,()):jM)∧k<l.length∧out.Nodup∧(∀ x∈out,x<l.length)∧(∃ j,itp (par l) j i=some k)∧(qh (par l) i→∃ d,u5 (par l) i k d∧∀ x∈out,∃ e,d≤e∧u5 (par l) i x e)∧(tV l→out++lV l k=lV l i))
   (fun X=>l.length+1 - X.2.1.length)
   (fun _ r=>∃ (out:List Nat) (ok:Bool),(r=(if ok=true then (some (Sum.inr (cI out,())):Option iJ) else some (Sum.inl (cI out,false,())))∨(ok=true∧r=(some (Sum.inl (cI out,true,())):Option iJ)))∧(ok=false↔qh (par l) i)∧(tV l→out=lV l i)) ?_ f _
   ⟨[],i,rfl,hi,by simp,by simp,⟨0,rfl⟩,fun hon=>by obtain⟨d,hd⟩:=hon.Wg;exact⟨d,hd,by simp⟩,fun _=>by simp⟩ (by dsimp only;simp;omega)
  rintro _ again ⟨out,k,rfl,hk,hnd,hlt,⟨j,hj⟩,hon,hno⟩ ih
  dsimp only at ih
  have hlen:=yN l.length out hnd hlt
  unfold pL
  dsimp only
  have hy:l[k]? =some l[k]:=aG hk
  generalize l[k]=p at hy
  rw[bA,hy,Y7,Y7]
  rcases U8 h1 hy with ⟨g1,g2⟩ | ⟨g1,k',g2,g3⟩
  ·rw[g1]
   refine⟨out,true,.inl rfl, ?_,fun hn=> ?_⟩
   ·constructor
    ·intro h;cases h
    ·intro h
     obtain⟨d,hd,_⟩:=hon h
     obtain⟨k',e,_⟩:=hd.step
     rw[g2] at e;cases e
   ·have:=hno hn
    rw[L8 g2,Xn] at this
    exact this
  ·have hk':=Kp g2
   rw[show (!(p.2.1==[]))=true by cases hp:p.2.1<;>simp_all,Zk]
   obtain⟨q,hq1,hq2⟩:=hat p.2.1
   have:q=k':=hq2 k' g3
   subst this
   rw[hq1,Y7]
   dsimp only
   by_cases e1:q=i
   ·subst e1
    rw[show ((q:Int)==(q:Int))=true by simp,Zk]
    have hloop:qh (par l) q:=⟨j,by rw[Ln (b:=1) hj];simp[itp,g2]⟩
    exact⟨[],false,.inl rfl,⟨fun _=>hloop,fun _=>rfl⟩,fun hn=>absurd hloop (hn q hi)⟩
   ·rw[show ((q:Int)==(i:Int))=false by rw[Zf];omega,Zj,uv _ _ (by rw[yw];omega),Y7]
    by_cases e2:q∈out
    ·rw[Zo (Sw.2 e2),Zk]
     refine⟨out,true,.inr ⟨rfl,rfl⟩,⟨fun h=>(by cases h),fun h=> ?_⟩,fun hn=> ?_⟩
     ·obtain⟨d,hd,hx⟩:=hon h
      obtain⟨k2,e,h2⟩:=hd.step
      rw[g2] at e;cases e
      rcases h2 with ⟨h2,_⟩ | ⟨_,e,he,h3⟩
      ·exact absurd h2 e1
      ·obtain⟨f',hf',hx'⟩:=hx q e2
       have:=h3.uniq hx'
       omega
     ·exfalso
      have h3:=hno hn
      have h4:=(List.nodup_cons.1 (Rl hn hi)).2
      rw[← h3,L9 hn hk g2,List.nodup_append] at h4
      exact h4.2.2 q e2 q (by simp) rfl
    ·rw[Zm (fun h=>e2 (Sw.1 h)),Zj,aH (ou (by rw[yw];omega) (by rw[yw];omega))]
     refine ih _ ⟨out++[q],q,by simp[cI],hk', ?_, ?_,⟨j+1, ?_⟩,fun h=> ?_,fun hn=> ?_⟩ (by simp[yw];omega)
     ·rw[List.nodup_append]
      exact⟨hnd,by simp,fun x hx y hy=>by simp at hy;subst hy;exact fun e=>e2 (e ▸ hx)⟩
     ·intro x hx
      rcases Yb.1 hx with hx | hx
      ·exact hlt x hx
      ·simp at hx;omega
     ·rw[Ln (b:=1) hj];simp[itp,g2]
     ·obtain⟨d,hd,hx⟩:=hon h
      obtain⟨k2,e,h2⟩:=hd.step
      rw[g2] at e;cases e
      rcases h2 with ⟨h2,_⟩ | ⟨_,e,he,h3⟩
      ·exact absurd h2 e1
      ·refine⟨e,h3,fun x hx2=> ?_⟩
       rcases Yb.1 hx2 with hx2 | hx2
       ·obtain⟨f',hf',hx'⟩:=hx x hx2;exact⟨f',by omega,hx'⟩
       ·simp at hx2;subst hx2;exact⟨e,YM _,h3⟩
     ·rw[← hno hn,L9 hn hk g2,Xm];rfl
 obtain⟨out,ok,h2,h3,h4⟩:=loop (Int.natAbs (i:Int)+(List.length ([]:List Int)+(Int.natAbs (i:Int)+(List.length a1+(List.length a2+(Int.natAbs a3+(List.length l+2))))))) (by omega)
 refine⟨out,ok, ?_,h3,h4⟩
 rcases h2 with h2 | ⟨h5,h2⟩
 ·rw[h2]
  cases ok<;>rfl
 ·rw[h2,h5];rfl
end Go.Md
namespace Go.Md
open Go.Dn
def n1 (l:List aa) (p:aa):Int:=if p.2.1≠[]∧(dR (·.1) p.2.1 l).isSome=false then 9 else 0
open Classical in
noncomputable def n2 (l:List aa) (i:Nat):Int:=if qh (par l) i then 17 else 0
def n3 (l:List aa) (i:Nat):Int:=if 5<(lV l i).length then 2 else 0
def J9 (l:List aa):Int:=cS (fun _ p=>n1 l p) 0 l
noncomputable def Ka (l:List aa):Int:=cS (fun i _=>n2 l i) 0 l
def Tm (l:List aa):Int:=cS (fun i _=>n3 l i) 0 l
noncomputable def GB (l:List aa):Int:=if J9 l≠0 then J9 l else if Ka l≠0 then Ka l else Tm l
theorem HO {l:List aa} (h:J9 l=0):Nu l:=by
 intro p hp
 obtain⟨i,hi⟩:=Yh.1 hp
 have:=jW h i p hi
 unfold n1 at this
 by_cases h1:p.2.1=[]
 ·exact .inl h1
 ·cases h2:(dR (fun x:aa=>x.1) p.2.1 l).isSome with
  | true=>exact .inr rfl
  | false=>rw[Zw ⟨h1,h2⟩] at this;omega
theorem HP {l:List aa} (h:Ka l=0):tV l:=by
 intro k hk hon
 have:=jW h k l[k] (aG hk)
 unfold n2 at this
 rw[Y4,Zw hon] at this
 omega
theorem O4 {γ:Type} (s:Int) (u:γ) (k:γ→Option (Int×Unit)) (z:Int) (hk:s=0→k u=some (z,())):aO (β:=Int×Unit) (γ:=γ) (if s=0 then some (Sum.inr u) else some (Sum.inl (s,()))) k=some (if s≠0 then s else z,()):=by
 by_cases h:s=0
 ·rw[Zw h,aF,hk h,Zv (by simpa using h)]
 ·rw[Zv h,fR,Zw h]
theorem VT {γ:Type} (s:Int) (u:γ):aO (β:=Int×Unit) (γ:=γ) (if s=0 then some (Sum.inr u) else some (Sum.inl (s,()))) (fun _=>some (0,()))=some (s,()):=R9 s u
theorem EL (a:bn) (hl:a.2.2.2.length≤500) (hs:Asc (·.1) a.2.2.2):pM a=some (GB a.2.2.2,()):=by
 unfold pM GB
 have hat:=fun t=>si a t (by omega) hs
 have har:=fun h1 i hi=>AM a hl hs h1 i hi
 obtain⟨a1,a2,a3,l⟩:=a
 dsimp only at*
 rw[pF (f:=mq) (fun i=>((l,(l.length:Int),(i:Int),a1,a2,a3,l,()):mw)) l (fun _ p=>n1 l p) (a1,a2,a3,l,()) ?_ ?_ ?_ _ ?_]
 ·refine O4 _ _ _ _ fun z1=> ?_
  have h1:=HO z1
  dsimp only
  rw[pF (f:=mu) (fun i=>(((l.length:Int),(i:Int),a1,a2,a3,l,()):mz)) l (fun i _=>n2 l i) (a1,a2,a3,l,()) ?_ ?_ ?_ _ ?_]
  ·refine O4 _ _ _ _ fun z2=> ?_
   have h2:=HP z2
   dsimp only
   rw[pF (f:=lK) (fun i=>(((l.length:Int),(i:Int),a1,a2,a3,l,()):lM)) l (fun i _=>n3 l i) () ?_ ?_ ?_ _ ?_]
   ·exact VT _ _
   ·rfl
   ·intro i y again hy
    have hi:=(XN.1 hy).1
    unfold lK
    dsimp only
    obtain⟨out,ok,g1,g2,g3⟩:=har h1 i hi
    rw[az (by omega),g1,Y7,aj (by omega) (by omega)]
    dsimp only
    rw[g3 h2,yw]
    unfold n3
    by_cases h5:5<(lV l i).length
    ·rw[az (by omega),Zw h5,Zv (by omega)]
    ·rw[aA (by omega),Zv h5,Zw rfl];rfl
   ·intro again
    unfold lK
    dsimp only
    rw[aA (by omega)]
   ·omega
  ·rfl
  ·intro i y again hy
   have hi:=(XN.1 hy).1
   unfold mu
   dsimp only
   obtain⟨out,ok,g1,g2,g3⟩:=har h1 i hi
   rw[az (by omega),g1,Y7,aj (by omega) (by omega)]
   dsimp only
   unfold n2
   by_cases hon:qh (par l) i
   ·rw[g2.2 hon,Zw hon,Zv (by omega)];rfl
   ·have:ok=true:=by
     cases ok with
     | true=>rfl
     | false=>exact absurd (g2.1 rfl) hon
    rw[this,Zv hon,Zw rfl];rfl
  ·intro again
   unfold mu
   dsimp only
   rw[aA (by omega)]
  ·omega
 ·rfl
 ·intro i y again hy
  have hi:=(XN.1 hy).1
  unfold mq
  dsimp only
  obtain⟨q,hq1,hq2⟩:=hat y.2.1
  rw[az (by omega),bA,hy,Y7,hq1,Y7,aj (by omega) (by omega)]
  dsimp only
  by_cases e1:y.2.1=[]
  ·have hn:n1 l y=0:=by unfold n1;rw[Zv (fun h=>h.1 e1)]
   rw[hn,Zw rfl,e1];rfl
  ·rw[show (!(y.2.1==[]))=true by cases hp:y.2.1<;>simp_all,Zk]
   cases h2:(dR (fun x:aa=>x.1) y.2.1 l).isSome with
   | true=>
    have hn:n1 l y=0:=by unfold n1;rw[Zv (fun h=>by rw[h2] at h;exact absurd h.2 (by simp))]
    rw[hn,Zw rfl];rfl
   | false=>
    have hn:n1 l y=9:=by unfold n1;rw[Zw ⟨e1,h2⟩]
    rw[hn,Zv (by omega)];rfl
 ·intro again
  unfold mq
  dsimp only
  rw[aA (by omega)]
 ·omega
noncomputable def mD (a:bn):Int:=
 if nI a.1=false then 5 else if nI a.2.1=false then 5 else if ¬(1≤a.2.2.1∧a.2.2.1≤3652059) then 1
 else if 500<a.2.2.2.length then 2 else if cS (lJ a.2.2.2) 0 a.2.2.2≠0 then cS (lJ a.2.2.2) 0 a.2.2.2 else GB a.2.2.2
theorem E2 {l:List aa} (h:cS (lJ l) 0 l=0):Asc (·.1) l:=by
 have step:∀ i x y,l[i]? =some x→l[i+1]? =some y→Op.bytesLess x.1 y.1=true:=fun i x y hx hy=>by
  have:=jW h (i+1) y hy
  rw[Y4] at this
  unfold lJ at this
  split at this
  ·omega
  ·split at this
   ·omega
   ·rename_i h2
    have h3:DM l (i+1) y=false:=by simpa using h2
    simp only[DM,hx,WV,Zf] at h3
    rcases rH x.1 y.1 with h1 | h1 | h1
    ·exact h1
    ·exact absurd h1.symm h3.2
    ·rw[h3.1] at h1;cases h1
 intro i j x y hij hx hy
 induction j generalizing y with
 | zero=>omega
 | succ j ih=>
  rcases YS.1 hij with h1 | h1
  ·have hj:j<l.length:=by have:=(XN.1 hy).1;omega
   have hz:l[j]? =some l[j]:=aG hj
   exact iU (ih _ h1 hz) (step j _ y hz hy)
  ·subst h1;exact step i x y hx hy
def CY (a:bn):Prop:=∀ p∈a.2.2.2,p.1.length≤9223372036854775807
theorem kO (a:bn) (hf:CY a):gu a=some (mD a,()):=by
 unfold gu mD
 simp only[zo,Oz,Y7]
 cases nI a.1 with
 | false=>rfl
 | true=>
 cases nI a.2.1 with
 | false=>rfl
 | true=>
 simp only[WU,Zj,Bool.true_eq_false,Zu]
 by_cases n_c1:¬(1≤a.2.2.1∧a.2.2.1≤3652059)
 ·rw[Zm n_c1,Zw n_c1];rfl
 have c1:=Decidable.of_not_not n_c1
 rw[Zo c1,Zv (by simpa using c1),WU,Zj]
 by_cases c2:500<a.2.2.2.length
 ·rw[az (by omega),Zw c2]
 rw[aA (by omega),Zv c2]
 obtain⟨a1,a2,a3,l⟩:=a
 dsimp only at*
 rw[pF (f:=kN) (fun i=>(((l.length:Int),(i:Int),a1,a2,a3,l,()):kP)) l (lJ l) (a1,a2,a3,l,()) ?_ ?_ ?_ _ ?_]
 ·refine O4 _ _ _ _ fun z=> ?_
  dsimp only
  rw[EL (a1,a2,a3,l) (by dsimp only;omega) (E2 z),Y7]
 ·rfl
 ·intro i y again hy
  have hi:=(XN.1 hy).1
  unfold kN
  dsimp only
  rw[az (by omega),CL l i y hy (by omega) (hf y (Yj hy)),Y7,aj (by omega) (by omega)]
  dsimp only
  by_cases hz:lJ l i y=0
  ·rw[hz];rfl
  ·rw[show (lJ l i y != 0)=true by simpa using hz,Zk,Zv hz]
 ·intro again
  unfold kN
  dsimp only
  rw[aA (by omega)]
 ·omega
end Go.Md
namespace Go.Md
open Go.Dn
structure Ns (a:bn):Prop where
 len:a.2.2.2.length≤500
 asc:Asc (·.1) a.2.2.2
 n1:Nu a.2.2.2
 nl:tV a.2.2.2
theorem vE {a:bn} (h:mD a=0):Ns a:=by
 unfold mD at h
 split at h
 ·omega
 split at h
 ·omega
 split at h
 ·omega
 split at h
 ·omega
 split at h
 ·omega
 rename_i h1 h2
 have h3:cS (lJ a.2.2.2) 0 a.2.2.2=0:=by omega
 unfold GB at h
 split at h
 ·omega
 rename_i h4
 split at h
 ·omega
 rename_i h5
 exact⟨by omega,E2 h3,HO (by omega),HP (by omega)⟩
def lab (l:List aa) (i:Nat):List UInt8:=((l[i]?).map (·.1)).getD []
theorem Af {l:List aa} {i:Nat} {p:aa} (h:l[i]? =some p):lab l i=p.1:=by unfold lab;rw[h];rfl
theorem OA {l:List aa} (hs:Asc (·.1) l) {t:List UInt8} {T i:Nat} (hT:dR (·.1) t l=some T) (hi:i<l.length):lab l i=t↔i=T:=by
 have hp:l[i]? =some l[i]:=aG hi
 rw[Af hp]
 constructor
 ·intro h
  have:=Lp hs hp h
  rw[hT] at this;cases this;rfl
 ·rintro rfl
  obtain⟨x,h1,h2⟩:=oO hT
  rw[hp] at h1;cases h1;exact h2
theorem Sm {a:bn} (h:Ns a) {i:Nat} (hi:i<a.2.2.2.length):kW a (i:Int)=some (cI (lV a.2.2.2 i),true,()):=by
 obtain⟨out,ok,g1,g2,g3⟩:=AM a h.len h.asc h.n1 i hi
 have:ok=true:=by
  cases ok with
  | true=>rfl
  | false=>exact absurd (g2.1 rfl) (h.nl i hi)
 rw[g1,g3 h.nl,this]
theorem FX {a:bn} (h:Ns a) {i T:Nat} (hi:i<a.2.2.2.length) {t:List UInt8} (hT:dR (·.1) t a.2.2.2=some T):rf a (i:Int) t=some (decide (T∈lV a.2.2.2 i),()):=by
 unfold rf mH pO
 rw[Sm h hi,Y7]
 dsimp only
 have hlt:∀ x∈lV a.2.2.2 i,x<a.2.2.2.length:=fun x hx=>UN hx
 have hlen:=NN h.nl hi
 have hl:=h.len
 generalize lV a.2.2.2 i=L at*
 have loop:∀ f,L.length<f→∃ n:Int,iter f ((cI L,(a,t),((cI L).length:Int),(0:Int),()):gL) jE=(if T∈L then some (Sum.inl (n,())) else some (Sum.inr ()))∧0≤n:=by
  intro f hf
  refine bJ (Inv:=fun c X=>X=((cI L,(a,t),((cI L).length:Int),(c:Int),()):gL)∧∀ j y,j<c→L[j]? =some y→y≠T) L.length
   (fun r=>∃ n:Int,r=(if T∈L then some (Sum.inl (n,())) else some (Sum.inr ()))∧0≤n) ?_ ?_ f 0 _ ⟨rfl,fun _ _ h=>absurd h (YZ _)⟩ (by omega) (by omega)
  ·rintro c _ again hc ⟨rfl,hb⟩ ih
   unfold jE tE
   dsimp only
   have hy:L[c]? =some L[c]:=aG hc
   have hyl:=hlt _ (XW hc)
   generalize L[c]=y at hy hyl
   have hy':(cI L)[c]? =some (y:Int):=by unfold cI;rw[XO,hy];rfl
   have hp:a.2.2.2[y]? =some a.2.2.2[y]:=aG hyl
   rw[az (by rw[yw];omega),bA,hy',Y7,bA,hp,Y7,Y7]
   dsimp only
   have hle:=OA h.asc hT hyl
   rw[Af hp] at hle
   by_cases he:y=T
   ·rw[show (a.2.2.2[y].1==t)=true by simpa using hle.2 he,Zk]
    exact⟨c,by rw[Zw (he ▸ Yj hy)],by omega⟩
   ·rw[show (a.2.2.2[y].1==t)=false by simpa using fun e=>he (hle.1 e),Zj,aj (by omega) (by omega)]
    refine ih _ ⟨rfl,fun j z hj hz=> ?_⟩
    rcases YS.1 hj with h | h
    ·exact hb j z h hz
    ·subst h;rw[hy] at hz;cases hz;exact he
  ·rintro _ again ⟨rfl,hb⟩
   unfold jE
   dsimp only
   rw[aA (by rw[yw];omega)]
   refine⟨0, ?_,W0 _⟩
   rw[Zv]
   intro hm
   obtain⟨j,hj⟩:=Yh.1 hm
   exact hb j T (XN.1 hj).1 hj rfl
 obtain⟨n,h1,h2⟩:=loop (List.length (cI L)+(Int.natAbs ((List.length (cI L):Int))+(Int.natAbs (0:Int)+2))) (by rw[yw];omega)
 rw[h1]
 by_cases hm:T∈L
 ·rw[Zw hm,fR,Y7,Y7,Zo hm]
  congr 2
  exact Zo h2
 ·rw[Zv hm,aF,Y7,Y7,Zm hm]
  rfl
end Go.Md
