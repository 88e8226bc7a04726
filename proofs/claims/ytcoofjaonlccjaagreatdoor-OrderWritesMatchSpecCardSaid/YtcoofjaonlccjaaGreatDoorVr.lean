/-
  Plain facts: products, powers, rounding; the order of strings; decimals. No condition.
-/
import Derived.Test.YtcoofjaonlccjaaGreatDoorVq
import Derived.Test.YtcoofjaonlccjaaGreatDoorVn
import Derived.Test.YtcoofjaonlccjaaGreatDoorVp
set_option linter.all false
namespace Go.Md
open Go.Dn
end Go.Md
namespace Go.Md
open Go.Dn
def Le (k:Nat) (z:Int):Prop:=z.natAbs≤10 ^ k
theorem Le.mul {a b:Nat} {x y:Int} (hx:Le a x) (hy:Le b y):Le (a+b) (x*y):=by
 unfold Le at*
 rw [ZQ,abq]
 exact Nat.mul_le_mul hx hy
theorem Le.mono {a b:Nat} {x:Int} (hx:Le a x) (h:a≤b):Le b x:=abc hx (abr (by omega) h)
theorem Le.add {a:Nat} {x y:Int} (hx:Le a x) (hy:Le a y):Le (a+1) (x+y):=by
 unfold Le at*
 rw [abt]
 omega
theorem Le.neg {a:Nat} {x:Int} (hx:Le a x):Le a (-x):=by unfold Le at *;omega
theorem Le.w {k:Nat} {z:Int} (h:Le k z) (hk:k≤900):z.natAbs<4294967296 ^ 99:=
 abd (h.mono hk) (by decide +kernel)
theorem Le.n {k:Nat} {z:Int} (h:Le k z) (hk:k≤500):(dg6 z.natAbs).length<90:=by
 have:=T0 (k:=84) (n:=z.natAbs) (abd (h.mono hk) (by decide +kernel))
 omega
theorem Le.pow (n:Nat):Le n (10 ^ n):=by
 unfold Le
 rw [ZR];exact abb _
theorem Le.int {n:Int} (h1: -9223372036854775808≤n) (h2:n≤9223372036854775807):Le 19 n:=by unfold Le;omega
theorem Le.succ {k n:Nat} (h:Le k (n:Int)):Le (k+1) ((n+1:Nat):Int):=by
 unfold Le at*
 rw [abt]
 have:1≤10 ^ k:=Nat.pow_pos (by omega)
 omega
end Go.Md
namespace Go.Md
open Go.Dn
end Go.Md
namespace Go.Md
open Go.Dn
end Go.Md
namespace Go.Md
open Go.Dn
end Go.Md
namespace Go.Md
open Go.Dn
instance (d:ah):Decidable (fB d):=by unfold fB;exact inferInstance
def inR (d:ah) (lo hi pl:Int):Bool:=decide (fB d∧d.2≤pl∧lo*10 ^ d.2.toNat≤d.1∧d.1≤hi*10 ^ d.2.toNat)
theorem W6 {d:ah} (h0:0≤d.2) (h1:d.2≤9) (k:Int):k*10 ^ 9=k*10 ^ d.2.toNat*10 ^ (9 - d.2).toNat:=by
 rw [ZM, ← Int.pow_add,show d.2.toNat+(9 - d.2).toNat=9 by omega]
theorem XW {d:ah} (h0:0≤d.2) (h1:d.2≤9) (k:Int):kO d≤k*10 ^ 9↔d.1≤k*10 ^ d.2.toNat:=by
 unfold kO
 rw [W6 h0 h1]
 exact Int.mul_le_mul_right (As _)
theorem tw (d:ah):fP d=some (if fB d then 0 else 1,()):=by
 rw [Eg]
 congr 2
 by_cases h:fB d
 ·rw [if_pos h,if_pos (by unfold fB at h;omega)]
 ·rw [if_neg h,if_neg (by unfold fB at h;omega)]
theorem yq (d:ah):jT d=some (if fB d then 0 else 1,()):=by
 rw [Kj]
 congr 2
 by_cases h:fB d
 ·rw [if_pos h,if_pos (by unfold fB at h;omega)]
 ·rw [if_neg h,if_neg (by unfold fB at h;omega)]
end Go.Md
namespace Go.Md
open Go.Dn
theorem yL (n:Int) (h0:0≤n) (h1:n≤18):zi n=some (10 ^ n.toNat,()):=QG n h0 h1
theorem yp (d:ah):lG d=some (if inR d 0 1000000000 4=true then 0 else 1,()):=by
 unfold lG oA
 rw [tw,Option.bind_some]
 by_cases hd:fB d
 ·have hp:=As d.2.toNat
  have hp2:(10:Int) ^ d.2.toNat≤1000000000:=by
   have:=abr (n:=10) (by omega) (show d.2.toNat≤9 by have:=hd.2.2;omega)
   have h2:=Int.ofNat_le.2 this
   simpa using h2
  rw [yL d.2 hd.2.1 (by have:=hd.2.2;omega)]
  dsimp only
  rw [if_pos hd,show ((0:Int) != 0)=false from rfl,cond_false]
  have e:inR d 0 1000000000 4=(decide (d.2≤4)&&(decide (d.1≥0)&&decide (d.1≤1000000000*10 ^ d.2.toNat))):=by
   unfold inR
   rw [← Bool.decide_and, ← Bool.decide_and,abG,Int.zero_mul]
   constructor
   ·rintro ⟨_,h2,h3,h4⟩;exact ⟨h2,h3,h4⟩
   ·rintro ⟨h2,h3,h4⟩;exact ⟨hd,h2,h3,h4⟩
  rw [e,Option.bind_some,aD (n:=1000000000*10 ^ d.2.toNat) (by omega) (by omega)]
  cases decide (d.2≤4)<;>cases decide (d.1≥0)<;>cases decide (d.1≤1000000000*10 ^ d.2.toNat)<;>rfl
 ·have:inR d 0 1000000000 4=false:=by unfold inR;simp [hd]
  simp [hd,this]
end Go.Md
namespace Go.Md
open Go.Dn
theorem JT:∀ (n:Nat) (l:List Nat),l.Nodup→(∀ x∈l,x<n)→l.length≤n
 | 0,l,_,h=>by
  cases l with
  | nil=>simp
  | cons a r=>exact absurd (h a (by simp)) (abo _)
 | n+1,l,hd,h=>by
  by_cases hm:n∈l
  ·have h1:=JT n (l.erase n) (hd.erase n) (fun x hx=>by
    have:=(hd.mem_erase_iff).1 hx
    have:=h x this.2
    omega)
   rw [List.length_erase_of_mem hm] at h1
   omega
  ·have:=JT n l hd (fun x hx=>by
    have h2:=h x hx
    have:x≠n:=fun e=>hm (e ▸ hx)
    omega)
   omega
def itp (par:Nat→Option Nat):Nat→Nat→Option Nat
 | 0,i=>some i
 | j+1,i=>(par i).bind (itp par j)
def AF (par:Nat→Option Nat) (i k d:Nat):Prop:=itp par (d+1) k=some i∧∀ e,e<d→itp par (e+1) k≠some i
theorem AF.uniq {par:Nat→Option Nat} {i k d e:Nat} (h:AF par i k d) (h':AF par i k e):d=e:=by
 rcases abi d e with h1 | h1 | h1
 ·exact absurd h.1 (h'.2 d h1)
 ·exact h1
 ·exact absurd h'.1 (h.2 e h1)
theorem AF.step {par:Nat→Option Nat} {i k d:Nat} (h:AF par i k d):∃ k',par k=some k'∧((k'=i∧d=0)∨(k'≠i∧∃ e,d=e+1∧AF par i k' e)):=by
 obtain ⟨h1,h2⟩:=h
 simp only [itp] at h1
 cases hp:par k with
 | none=>rw [hp] at h1;cases h1
 | some k'=>
  rw [hp] at h1
  refine ⟨k',rfl, ?_⟩
  cases d with
  | zero=>simp only [Option.bind_some,itp,Option.some.injEq] at h1;exact .inl ⟨h1,rfl⟩
  | succ e=>
   right
   refine ⟨fun e1=> ?_,e,rfl,by simpa using h1,fun f hf hx=> ?_⟩
   ·refine h2 0 (by omega) ?_
    simp only [itp,hp,Option.bind_some,e1]
   ·refine h2 (f+1) (by omega) ?_
    rw [show f+1+1=(f+1)+1 from rfl]
    show (par k).bind (itp par (f+1))=some i
    rw [hp];exact hx
theorem AF.list {par:Nat→Option Nat} {i n:Nat} (hn:∀ k k',par k=some k'→k'<n):∀ {d k:Nat},k<n→AF par i k d→∃ l:List Nat,l.length=d+1∧l.Nodup∧(∀ x∈l,x<n)∧∀ x∈l,∃ e,e≤d∧AF par i x e
 | 0,k,hk,h=>⟨[k],rfl,by simp,by simpa using hk,fun x hx=>by simp at hx;subst hx;exact ⟨0,abb _,h⟩⟩
 | d+1,k,hk,h=>by
  obtain ⟨k',h1,h2⟩:=h.step
  rcases h2 with ⟨_,h2⟩ | ⟨_,e,h2,h3⟩
  ·omega
  ·have:e=d:=by omega
   subst this
   obtain ⟨l,l1,l2,l3,l4⟩:=AF.list hn (hn _ _ h1) h3
   refine ⟨k::l,by simp [l1],List.nodup_cons.2 ⟨fun hm=> ?_,l2⟩,fun x hx=> ?_,fun x hx=> ?_⟩
   ·obtain ⟨f,f1,f2⟩:=l4 k hm
    have:=f2.uniq h
    omega
   ·rcases aaH.1 hx with rfl | hx
    ·exact hk
    ·exact l3 x hx
   ·rcases aaH.1 hx with rfl | hx
    ·exact ⟨e+1,abb _,h⟩
    ·obtain ⟨f,f1,f2⟩:=l4 x hx;exact ⟨f,by omega,f2⟩
theorem AF.le {par:Nat→Option Nat} {i n d k:Nat} (hn:∀ k k',par k=some k'→k'<n) (hk:k<n) (h:AF par i k d):d+1≤n:=by
 obtain ⟨l,l1,l2,l3,_⟩:=h.list hn hk
 have:=JT n l l2 l3
 omega
end Go.Md
namespace Go.Md
open Go.Dn
def Co (c:UInt8):Bool:=decide (48≤c.toNat)&&decide (c.toNat≤57)
theorem Sa {c:UInt8}:(decide ((c.toNat:Int)<48)=false∧decide ((c.toNat:Int)>57)=false)↔Co c=true:=by
 simp only [Co,Zv,abJ,abI]
 omega
theorem NX (s:List UInt8) (hs:s.length≤9223372036854775807):om s=some (decide (s≠[])&&s.all Co,()):=by
 unfold om Ez
 by_cases h0:s=[]
 ·subst h0;rfl
 ·rw [show (!(s==[]))=true by cases s<;>simp_all,cond_true,decide_eq_true h0,ZI]
  have loop:∀ f,s.length<f→iter f ((s,(48:Int),(57:Int),(s.length:Int),(0:Int),()):og) s8=(if s.all Co=true then some (Sum.inr ()) else some (Sum.inl (false,()))):=by
   intro f hf
   refine de (Inv:=fun i X=>X=((s,(48:Int),(57:Int),(s.length:Int),(i:Int),()):og)∧(s.take i).all Co=true) s.length
    (fun r=>r=(if s.all Co=true then some (Sum.inr ()) else some (Sum.inl (false,())))) ?_ ?_ f 0 _ ⟨rfl,by simp⟩ (by omega) (by omega)
   ·rintro i _ again hi ⟨rfl,hb⟩ ih
    unfold s8
    dsimp only
    have hy:s[i]? =some s[i]:=bD hi
    have hym:s[i]∈s:=List.getElem_mem hi
    generalize s[i]=y at hy hym
    rw [bG (by omega),MT hy,Option.bind_some,Option.bind_some,aD (by omega) (by omega)]
    cases hd:Co y with
    | true=>
     obtain ⟨h1,h2⟩:=Sa.2 hd
     rw [h1,h2,cond_false,cond_false]
     refine ih _ ⟨rfl, ?_⟩
     rw [qw hy]
     simp [hb,hd]
    | false=>
     have hall:s.all Co=false:=by
      rw [List.all_eq_false]
      exact ⟨y,hym,by simp [hd]⟩
     rw [hall]
     cases h1:decide ((y.toNat:Int)<48) with
     | true=>rfl
     | false=>
      cases h2:decide ((y.toNat:Int)>57) with
      | true=>rfl
      | false=>have:=Sa.1 ⟨h1,h2⟩;rw [hd] at this;cases this
   ·rintro _ again ⟨rfl,hb⟩
    unfold s8
    dsimp only
    rw [bP (by omega)]
    rw [aa1 (abb _)] at hb
    rw [if_pos hb]
  rw [loop _ (by omega)]
  cases s.all Co<;>rfl
def qOk (d:ah) (zero:Bool):Bool:=inR d 0 1000000000 3&&(!(d.1==0)||zero)
theorem Oa {d:ah} (hd:fB d):oA d 3 1000000000=some (inR d 0 1000000000 3,()):=by
 unfold oA
 have hp:=As d.2.toNat
 have hp2:(10:Int) ^ d.2.toNat≤1000000000:=by
  have:=abr (n:=10) (by omega) (show d.2.toNat≤9 by have:=hd.2.2;omega)
  have h2:=Int.ofNat_le.2 this
  simpa using h2
 rw [yL d.2 hd.2.1 (by have:=hd.2.2;omega)]
 have e:inR d 0 1000000000 3=(decide (d.2≤3)&&(decide (d.1≥0)&&decide (d.1≤1000000000*10 ^ d.2.toNat))):=by
  unfold inR
  rw [← Bool.decide_and, ← Bool.decide_and,abG,Int.zero_mul]
  constructor
  ·rintro ⟨_,h2,h3,h4⟩;exact ⟨h2,h3,h4⟩
  ·rintro ⟨h2,h3,h4⟩;exact ⟨hd,h2,h3,h4⟩
 rw [e,Option.bind_some,aD (n:=1000000000*10 ^ d.2.toNat) (by omega) (by omega)]
 cases decide (d.2≤3)<;>cases decide (d.1≥0)<;>cases decide (d.1≤1000000000*10 ^ d.2.toNat)<;>rfl
theorem uG (d:ah) (z:Bool):iQ d z=some (if qOk d z=true then 0 else 1,()):=by
 unfold iQ qOk
 rw [tw,Option.bind_some]
 by_cases hd:fB d
 ·rw [Oa hd,if_pos hd]
  dsimp only
  rw [show ((0:Int) != 0)=false from rfl,cond_false,Option.bind_some]
  cases inR d 0 1000000000 3<;>cases (d.1==0)<;>cases z<;>rfl
 ·have:inR d 0 1000000000 3=false:=by unfold inR;simp [hd]
  simp [hd,this]
end Go.Md
