/-
  Plain facts: products, powers, rounding; digits. No condition.
-/
import Derived.Test.YtgmbmgfhpkoajacGreatDoorYq
import Derived.Test.YtgmbmgfhpkoajacGreatDoorYn
import Derived.Test.YtgmbmgfhpkoajacGreatDoorYp
set_option linter.all false
namespace Go.Md
open Go.Dn
end Go.Md
namespace Go.Md
open Go.Dn
def Le (k:Nat) (z:Int):Prop:=z.natAbs<=10 ^ k
theorem Le.mul {a b:Nat} {x y:Int} (hx:Le a x) (hy:Le b y):Le (a+b) (x*y):=by
 unfold Le at*
 rw[Int.natAbs_mul,Ww]
 exact Nat.mul_le_mul hx hy
theorem Le.mono {a b:Nat} {x:Int} (hx:Le a x) (h:a<=b):Le b x:=Wk hx (Wx (by omega) h)
theorem Le.add {a:Nat} {x y:Int} (hx:Le a x) (hy:Le a y):Le (a+1) (x+y):=by
 unfold Le at*
 rw[Wy]
 omega
theorem Le.neg {a:Nat} {x:Int} (hx:Le a x):Le a (-x):=by unfold Le at *;omega
theorem Le.w {k:Nat} {z:Int} (h:Le k z) (hk:k<=900):z.natAbs<4294967296 ^ 99:=
 Wl (h.mono hk) (by decide +kernel)
theorem Le.n {k:Nat} {z:Int} (h:Le k z) (hk:k<=500):(dg6 z.natAbs).length<90:=by
 have:=NG (k:=84) (n:=z.natAbs) (Wl (h.mono hk) (by decide +kernel))
 omega
theorem Le.pow (n:Nat):Le n (10 ^ n):=by
 unfold Le
 rw[UD];exact Wj _
theorem Le.int {n:Int} (h1: -9223372036854775808<=n) (h2:n<=9223372036854775807):Le 19 n:=by unfold Le;omega
theorem Le.succ {k n:Nat} (h:Le k (n:Int)):Le (k+1) ((n+1:Nat):Int):=by
 unfold Le at*
 rw[Wy]
 have:1<=10 ^ k:=Nat.pow_pos (by omega)
 omega
end Go.Md
namespace Go.Md
open Go.Dn
end Go.Md
namespace Go.Md
open Go.Dn
end Go.Md
namespace Go.Md
open Go.Dn
end Go.Md
namespace Go.Md
open Go.Dn
instance (d:ah):Decidable (jM d):=by unfold jM;exact inferInstance
def inR (d:ah) (lo hi pl:Int):Bool:=decide (jM d/\d.2<=pl/\lo*10 ^ d.2.toNat<=d.1/\d.1<=hi*10 ^ d.2.toNat)
theorem qh (d:ah):fm d=some (if jM d then 0 else 1,()):=by
 rw[zf]
 congr 2
 by_cases h:jM d
 ·rw[Xe h,Xe (by unfold jM at h;omega)]
 ·rw[Xd h,Xd (by unfold jM at h;omega)]
end Go.Md
namespace Go.Md
open Go.Dn
theorem uv (n:Int) (h0:0<=n) (h1:n<=18):uS n=some (10 ^ n.toNat,()):=Kl n h0 h1
theorem tU (d:ah):jD d=some (if inR d 0 1000000000 4=true then 0 else 1,()):=by
 unfold jD mh
 rw[qh,WG]
 by_cases hd:jM d
 ·have hp:=yL d.2.toNat
  have hp2:(10:Int) ^ d.2.toNat<=1000000000:=by
   have:=Wx (n:=10) (by omega) (show d.2.toNat<=9 by have:=hd.2.2;omega)
   have h2:=Int.ofNat_le.2 this
   simpa using h2
  rw[uv d.2 hd.2.1 (by have:=hd.2.2;omega)]
  dsimp only
  rw[Xe hd,show ((0:Int) != 0)=false from rfl,WU]
  have e:inR d 0 1000000000 4=(decide (d.2<=4)&&(decide (d.1>=0)&&decide (d.1<=1000000000*10 ^ d.2.toNat))):=by
   unfold inR
   rw[<- Bool.decide_and, <- Bool.decide_and,decide_eq_decide,Int.zero_mul]
   constructor
   ·rintro⟨_,h2,h3,h4⟩;exact⟨h2,h3,h4⟩
   ·rintro⟨h2,h3,h4⟩;exact⟨hd,h2,h3,h4⟩
  rw[e,WG,aG (n:=1000000000*10 ^ d.2.toNat) (by omega) (by omega)]
  cases decide (d.2<=4)<;>cases decide (d.1>=0)<;>cases decide (d.1<=1000000000*10 ^ d.2.toNat)<;>rfl
 ·have:inR d 0 1000000000 4=false:=by unfold inR;simp[hd]
  simp[hd,this]
end Go.Md
namespace Go.Md
open Go.Dn
theorem Dm:∀ (n:Nat) (l:List Nat),l.Nodup->(∀ x∈l,x<n)->l.length<=n
 | 0,l,_,h=>by
  cases l with
  | nil=>simp
  | cons a r=>exact absurd (h a (by simp)) (Nat.not_lt_zero _)
 | n+1,l,hd,h=>by
  by_cases hm:n∈l
  ·have h1:=Dm n (l.erase n) (hd.erase n) (fun x hx=>by
    have:=(hd.mem_erase_iff).1 hx
    have:=h x this.2
    omega)
   rw[List.length_erase_of_mem hm] at h1
   omega
  ·have:=Dm n l hd (fun x hx=>by
    have h2:=h x hx
    have:x≠n:=fun e=>hm (e ▸ hx)
    omega)
   omega
def itp (par:Nat->Option Nat):Nat->Nat->Option Nat
 | 0,i=>some i
 | j+1,i=>(par i).bind (itp par j)
def vQ (par:Nat->Option Nat) (i k d:Nat):Prop:=itp par (d+1) k=some i/\∀ e,e<d->itp par (e+1) k≠some i
theorem vQ.uniq {par:Nat->Option Nat} {i k d e:Nat} (h:vQ par i k d) (h':vQ par i k e):d=e:=by
 rcases Wq d e with h1 | h1 | h1
 ·exact absurd h.1 (h'.2 d h1)
 ·exact h1
 ·exact absurd h'.1 (h.2 e h1)
theorem vQ.step {par:Nat->Option Nat} {i k d:Nat} (h:vQ par i k d):∃ k',par k=some k'/\((k'=i/\d=0)\/(k'≠i/\∃ e,d=e+1/\vQ par i k' e)):=by
 obtain⟨h1,h2⟩:=h
 simp only[itp] at h1
 cases hp:par k with
 | none=>rw[hp] at h1;cases h1
 | some k'=>
  rw[hp] at h1
  refine⟨k',rfl, ?_⟩
  cases d with
  | zero=>simp only[WG,itp,Option.some.injEq] at h1;exact .inl ⟨h1,rfl⟩
  | succ e=>
   right
   refine⟨fun e1=> ?_,e,rfl,by simpa using h1,fun f hf hx=> ?_⟩
   ·refine h2 0 (by omega) ?_
    simp only[itp,hp,WG,e1]
   ·refine h2 (f+1) (by omega) ?_
    rw[show f+1+1=(f+1)+1 from rfl]
    show (par k).bind (itp par (f+1))=some i
    rw[hp];exact hx
theorem vQ.list {par:Nat->Option Nat} {i n:Nat} (hn:∀ k k',par k=some k'->k'<n):∀ {d k:Nat},k<n->vQ par i k d->∃ l:List Nat,l.length=d+1/\l.Nodup/\(∀ x∈l,x<n)/\∀ x∈l,∃ e,e<=d/\vQ par i x e
 | 0,k,hk,h=>⟨[k],rfl,by simp,by simpa using hk,fun x hx=>by simp at hx;subst hx;exact⟨0,Wj _,h⟩⟩
 | d+1,k,hk,h=>by
  obtain⟨k',h1,h2⟩:=h.step
  rcases h2 with ⟨_,h2⟩ | ⟨_,e,h2,h3⟩
  ·omega
  ·have:e=d:=by omega
   subst this
   obtain⟨l,l1,l2,l3,l4⟩:=vQ.list hn (hn _ _ h1) h3
   refine⟨k::l,by simp[l1],VT.2 ⟨fun hm=> ?_,l2⟩,fun x hx=> ?_,fun x hx=> ?_⟩
   ·obtain⟨f,f1,f2⟩:=l4 k hm
    have:=f2.uniq h
    omega
   ·rcases VH.1 hx with rfl | hx
    ·exact hk
    ·exact l3 x hx
   ·rcases VH.1 hx with rfl | hx
    ·exact⟨e+1,Wj _,h⟩
    ·obtain⟨f,f1,f2⟩:=l4 x hx;exact⟨f,by omega,f2⟩
theorem vQ.le {par:Nat->Option Nat} {i n d k:Nat} (hn:∀ k k',par k=some k'->k'<n) (hk:k<n) (h:vQ par i k d):d+1<=n:=by
 obtain⟨l,l1,l2,l3,_⟩:=h.list hn hk
 have:=Dm n l l2 l3
 omega
end Go.Md
namespace Go.Md
open Go.Dn
def xD (c:UInt8):Bool:=decide (48<=c.toNat)&&decide (c.toNat<=57)
theorem LM {c:UInt8}:(decide ((c.toNat:Int)<48)=false/\decide ((c.toNat:Int)>57)=false)↔xD c=true:=by
 simp only[xD,Ug,WY,decide_eq_false_iff_not]
 omega
theorem Hq (s:List UInt8) (hs:s.length<=9223372036854775807):l8 s=some (decide (s≠[])&&s.all xD,()):=by
 unfold l8 zG
 by_cases h0:s=[]
 ·subst h0;rfl
 ·rw[show (!(s==[]))=true by cases s<;>simp_all,WV,WX h0,Uv]
  have loop:∀ f,s.length<f->iter f ((s,(48:Int),(57:Int),(s.length:Int),(0:Int),()):l7) pW=(if s.all xD=true then some (Sum.inr ()) else some (Sum.inl (false,()))):=by
   intro f hf
   refine fh (Inv:=fun i X=>X=((s,(48:Int),(57:Int),(s.length:Int),(i:Int),()):l7)/\(s.take i).all xD=true) s.length
    (fun r=>r=(if s.all xD=true then some (Sum.inr ()) else some (Sum.inl (false,())))) ?_ ?_ f 0 _ ⟨rfl,by simp⟩ (by omega) (by omega)
   ·rintro i _ again hi ⟨rfl,hb⟩ ih
    unfold pW
    dsimp only
    have hy:s[i]? =some s[i]:=bz hi
    have hym:s[i]∈s:=List.getElem_mem hi
    generalize s[i]=y at hy hym
    rw[bR (by omega),RQ hy,WG,WG,aG (by omega) (by omega)]
    cases hd:xD y with
    | true=>
     obtain⟨h1,h2⟩:=LM.2 hd
     rw[h1,h2,WU,WU]
     refine ih _ ⟨rfl, ?_⟩
     rw[nE hy]
     simp[hb,hd]
    | false=>
     have hall:s.all xD=false:=by
      rw[List.all_eq_false]
      exact⟨y,hym,by simp[hd]⟩
     rw[hall]
     cases h1:decide ((y.toNat:Int)<48) with
     | true=>rfl
     | false=>
      cases h2:decide ((y.toNat:Int)>57) with
      | true=>rfl
      | false=>have:=LM.1 ⟨h1,h2⟩;rw[hd] at this;cases this
   ·rintro _ again ⟨rfl,hb⟩
    unfold pW
    dsimp only
    rw[cy (by omega)]
    rw[V7 (Wj _)] at hb
    rw[Xe hb]
  rw[loop _ (by omega)]
  cases s.all xD<;>rfl
def qOk (d:ah) (zero:Bool):Bool:=inR d 0 1000000000 3&&(!(d.1==0)||zero)
theorem HE {d:ah} (hd:jM d):mh d 3 1000000000=some (inR d 0 1000000000 3,()):=by
 unfold mh
 have hp:=yL d.2.toNat
 have hp2:(10:Int) ^ d.2.toNat<=1000000000:=by
  have:=Wx (n:=10) (by omega) (show d.2.toNat<=9 by have:=hd.2.2;omega)
  have h2:=Int.ofNat_le.2 this
  simpa using h2
 rw[uv d.2 hd.2.1 (by have:=hd.2.2;omega)]
 have e:inR d 0 1000000000 3=(decide (d.2<=3)&&(decide (d.1>=0)&&decide (d.1<=1000000000*10 ^ d.2.toNat))):=by
  unfold inR
  rw[<- Bool.decide_and, <- Bool.decide_and,decide_eq_decide,Int.zero_mul]
  constructor
  ·rintro⟨_,h2,h3,h4⟩;exact⟨h2,h3,h4⟩
  ·rintro⟨h2,h3,h4⟩;exact⟨hd,h2,h3,h4⟩
 rw[e,WG,aG (n:=1000000000*10 ^ d.2.toNat) (by omega) (by omega)]
 cases decide (d.2<=3)<;>cases decide (d.1>=0)<;>cases decide (d.1<=1000000000*10 ^ d.2.toNat)<;>rfl
theorem qC (d:ah) (z:Bool):gO d z=some (if qOk d z=true then 0 else 1,()):=by
 unfold gO qOk
 rw[qh,WG]
 by_cases hd:jM d
 ·rw[HE hd,Xe hd]
  dsimp only
  rw[show ((0:Int) != 0)=false from rfl,WU,WG]
  cases inR d 0 1000000000 3<;>cases (d.1==0)<;>cases z<;>rfl
 ·have:inR d 0 1000000000 3=false:=by unfold inR;simp[hd]
  simp[hd,this]
end Go.Md
