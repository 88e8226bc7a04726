/-
  Plain facts: products, powers, rounding; digits. No condition.
-/
import Derived.Test.YtekilbogbgmbbaaGreatDoorYq
import Derived.Test.YtekilbogbgmbbaaGreatDoorYn
import Derived.Test.YtekilbogbgmbbaaGreatDoorYp
set_option linter.all false
namespace Go.Md
open Go.Dn
theorem zne:((0:Int) != 0)=false:=rfl
end Go.Md
namespace Go.Md
open Go.Dn
def Le (k:Nat) (z:Int):Prop:=z.natAbs<=10 ^ k
theorem Le.mul {a b:Nat} {x y:Int} (hx:Le a x) (hy:Le b y):Le (a+b) (x*y):=by
 unfold Le at*
 rw[adD,afJ]
 exact Nat.mul_le_mul hx hy
theorem Le.mono {a b:Nat} {x:Int} (hx:Le a x) (h:a<=b):Le b x:=afu hx (afK (by omega) h)
theorem Le.add {a:Nat} {x y:Int} (hx:Le a x) (hy:Le a y):Le (a+1) (x+y):=by
 unfold Le at*
 rw[afL]
 omega
theorem Le.neg {a:Nat} {x:Int} (hx:Le a x):Le a (-x):=by unfold Le at *;omega
theorem Le.w {k:Nat} {z:Int} (h:Le k z) (hk:k<=900):z.natAbs<4294967296 ^ 99:=
 afw (h.mono hk) (by decide +kernel)
theorem Le.n {k:Nat} {z:Int} (h:Le k z) (hk:k<=500):(dg6 z.natAbs).length<90:=by
 have:=VB (k:=84) (n:=z.natAbs) (afw (h.mono hk) (by decide +kernel))
 omega
theorem Le.pow (n:Nat):Le n (10 ^ n):=by
 unfold Le
 rw[adF];exact aft _
theorem Le.int {n:Int} (h1: -9223372036854775808<=n) (h2:n<=9223372036854775807):Le 19 n:=by unfold Le;omega
theorem Le.succ {k n:Nat} (h:Le k (n:Int)):Le (k+1) ((n+1:Nat):Int):=by
 unfold Le at*
 rw[afL]
 have:1<=10 ^ k:=Nat.pow_pos (by omega)
 omega
end Go.Md
namespace Go.Md
open Go.Dn
end Go.Md
namespace Go.Md
open Go.Dn
end Go.Md
namespace Go.Md
open Go.Dn
end Go.Md
namespace Go.Md
open Go.Dn
instance (d:ah):Decidable (eM d):=by unfold eM;exact inferInstance
def inR (d:ah) (lo hi pl:Int):Bool:=decide (eM d/\d.2<=pl/\lo*10 ^ d.2.toNat<=d.1/\d.1<=hi*10 ^ d.2.toNat)
theorem ZX {d:ah} (h0:0<=d.2) (h1:d.2<=9) (k:Int):k*10 ^ 9=k*10 ^ d.2.toNat*10 ^ (9 - d.2).toNat:=by
 rw[adz, <- adH,show d.2.toNat+(9 - d.2).toNat=9 by omega]
theorem aa6 {d:ah} (h0:0<=d.2) (h1:d.2<=9) (k:Int):fS d<=k*10 ^ 9↔d.1<=k*10 ^ d.2.toNat:=by
 unfold fS
 rw[ZX h0 h1]
 exact Int.mul_le_mul_right (zu _)
theorem td (d:ah):gj d=some (if eM d then 0 else 1,()):=by
 rw[Dj]
 congr 2
 by_cases h:eM d
 ·rw[age h,age (by unfold eM at h;omega)]
 ·rw[agd h,agd (by unfold eM at h;omega)]
theorem xG (d:ah):jM d=some (if eM d then 0 else 1,()):=by
 rw[I7]
 congr 2
 by_cases h:eM d
 ·rw[age h,age (by unfold eM at h;omega)]
 ·rw[agd h,agd (by unfold eM at h;omega)]
end Go.Md
namespace Go.Md
open Go.Dn
theorem xV (n:Int) (h0:0<=n) (h1:n<=18):yA n=some (10 ^ n.toNat,()):=Rm n h0 h1
theorem xE (d:ah):lz d=some (if inR d 0 1000000000 4=true then 0 else 1,()):=by
 unfold lz oo
 rw[td,afO]
 by_cases hd:eM d
 ·have hp:=zu d.2.toNat
  have hp2:(10:Int) ^ d.2.toNat<=1000000000:=by
   have:=afK (n:=10) (by omega) (show d.2.toNat<=9 by have:=hd.2.2;omega)
   have h2:=Int.ofNat_le.2 this
   simpa using h2
  rw[xV d.2 hd.2.1 (by have:=hd.2.2;omega)]
  dsimp only
  rw[age hd,zne,af1]
  have e:inR d 0 1000000000 4=(decide (d.2<=4)&&(decide (d.1>=0)&&decide (d.1<=1000000000*10 ^ d.2.toNat))):=by
   unfold inR
   rw[<- Bool.decide_and, <- Bool.decide_and,af3,Int.zero_mul]
   constructor
   ·rintro⟨_,h2,h3,h4⟩;exact⟨h2,h3,h4⟩
   ·rintro⟨h2,h3,h4⟩;exact⟨hd,h2,h3,h4⟩
  rw[e,afO,aA (n:=1000000000*10 ^ d.2.toNat) (by omega) (by omega)]
  cases decide (d.2<=4)<;>cases decide (d.1>=0)<;>cases decide (d.1<=1000000000*10 ^ d.2.toNat)<;>rfl
 ·have:inR d 0 1000000000 4=false:=by unfold inR;simp[hd]
  simp[hd,this]
end Go.Md
namespace Go.Md
open Go.Dn
end Go.Md
namespace Go.Md
open Go.Dn
def Bq (c:UInt8):Bool:=decide (48<=c.toNat)&&decide (c.toNat<=57)
theorem Tj {c:UInt8}:(decide ((c.toNat:Int)<48)=false/\decide ((c.toNat:Int)>57)=false)↔Bq c=true:=by
 simp only[Bq,adf,af7,af5]
 omega
theorem NQ (s:Bys) (hs:s.length<=9223372036854775807):nZ s=some (decide (s≠[])&&s.all Bq,()):=by
 unfold nZ DK
 by_cases h0:s=[]
 ·subst h0;rfl
 ·rw[show (!(s==[]))=true by cases s<;>simp_all,af2,af6 h0,adv]
  have loop:∀ f,s.length<f->iter f ((s,(48:Int),(57:Int),(s.length:Int),(0:Int),()):nY) sL=(if s.all Bq=true then some (Sum.inr ()) else some (Sum.inl (false,()))):=by
   intro f hf
   refine cG (Inv:=fun i X=>X=((s,(48:Int),(57:Int),(s.length:Int),(i:Int),()):nY)/\(s.take i).all Bq=true) s.length
    (fun r=>r=(if s.all Bq=true then some (Sum.inr ()) else some (Sum.inl (false,())))) ?_ ?_ f 0 _ ⟨rfl,by simp⟩ (by omega) (by omega)
   ·rintro i _ again hi ⟨rfl,hb⟩ ih
    unfold sL
    dsimp only
    have hy:s[i]? =some s[i]:=bK hi
    have hym:s[i]∈s:=aet hi
    generalize s[i]=y at hy hym
    rw[bF (by omega),Mx hy,afO,afO,aA (by omega) (by omega)]
    cases hd:Bq y with
    | true=>
     obtain⟨h1,h2⟩:=Tj.2 hd
     rw[h1,h2,af1,af1]
     refine ih _ ⟨rfl, ?_⟩
     rw[pZ hy]
     simp[hb,hd]
    | false=>
     have hall:s.all Bq=false:=by
      rw[List.all_eq_false]
      exact⟨y,hym,by simp[hd]⟩
     rw[hall]
     cases h1:decide ((y.toNat:Int)<48) with
     | true=>rfl
     | false=>
      cases h2:decide ((y.toNat:Int)>57) with
      | true=>rfl
      | false=>have:=Tj.1 ⟨h1,h2⟩;rw[hd] at this;cases this
   ·rintro _ again ⟨rfl,hb⟩
    unfold sL
    dsimp only
    rw[bW (by omega)]
    rw[afh (aft _)] at hb
    rw[age hb]
  rw[loop _ (by omega)]
  cases s.all Bq<;>rfl
def qOk (d:ah) (zero:Bool):Bool:=inR d 0 1000000000 3&&(!(d.1==0)||zero)
theorem Oa {d:ah} (hd:eM d):oo d 3 1000000000=some (inR d 0 1000000000 3,()):=by
 unfold oo
 have hp:=zu d.2.toNat
 have hp2:(10:Int) ^ d.2.toNat<=1000000000:=by
  have:=afK (n:=10) (by omega) (show d.2.toNat<=9 by have:=hd.2.2;omega)
  have h2:=Int.ofNat_le.2 this
  simpa using h2
 rw[xV d.2 hd.2.1 (by have:=hd.2.2;omega)]
 have e:inR d 0 1000000000 3=(decide (d.2<=3)&&(decide (d.1>=0)&&decide (d.1<=1000000000*10 ^ d.2.toNat))):=by
  unfold inR
  rw[<- Bool.decide_and, <- Bool.decide_and,af3,Int.zero_mul]
  constructor
  ·rintro⟨_,h2,h3,h4⟩;exact⟨h2,h3,h4⟩
  ·rintro⟨h2,h3,h4⟩;exact⟨hd,h2,h3,h4⟩
 rw[e,afO,aA (n:=1000000000*10 ^ d.2.toNat) (by omega) (by omega)]
 cases decide (d.2<=3)<;>cases decide (d.1>=0)<;>cases decide (d.1<=1000000000*10 ^ d.2.toNat)<;>rfl
theorem tQ (d:ah) (z:Bool):iV d z=some (if qOk d z=true then 0 else 1,()):=by
 unfold iV qOk
 rw[td,afO]
 by_cases hd:eM d
 ·rw[Oa hd,age hd]
  dsimp only
  rw[zne,af1,afO]
  cases inR d 0 1000000000 3<;>cases (d.1==0)<;>cases z<;>rfl
 ·have:inR d 0 1000000000 3=false:=by unfold inR;simp[hd]
  simp[hd,this]
end Go.Md
