/-
  Plain facts: products, powers, rounding; the order of strings; decimals. No condition.
-/
import Derived.Test.YtcndcnfjdanbeaaGreatDoorXq
import Derived.Test.YtcndcnfjdanbeaaGreatDoorXn
import Derived.Test.YtcndcnfjdanbeaaGreatDoorXp
set_option linter.all false
namespace Go.Md
open Go.Dn
theorem zne:((0:Int) != 0)=false:=rfl
end Go.Md
namespace Go.Md
open Go.Dn
def Le (k:Nat) (z:Int):Prop:=z.natAbs≤10 ^ k
theorem Le.mul {a b:Nat} {x y:Int} (hx:Le a x) (hy:Le b y):Le (a+b) (x*y):=by
 unfold Le at*
 rw[ahj,ajk]
 exact Nat.mul_le_mul hx hy
theorem Le.mono {a b:Nat} {x:Int} (hx:Le a x) (h:a≤b):Le b x:=ai6 hx (ajl (by omega) h)
theorem Le.add {a:Nat} {x y:Int} (hx:Le a x) (hy:Le a y):Le (a+1) (x+y):=by
 unfold Le at*
 rw[ajm]
 omega
theorem Le.neg {a:Nat} {x:Int} (hx:Le a x):Le a (-x):=by unfold Le at *;omega
theorem Le.w {k:Nat} {z:Int} (h:Le k z) (hk:k≤900):z.natAbs<4294967296 ^ 99:=
 ai7 (h.mono hk) (by decide +kernel)
theorem Le.n {k:Nat} {z:Int} (h:Le k z) (hk:k≤500):(dg6 z.natAbs).length<90:=by
 have:=aaD (k:=84) (n:=z.natAbs) (ai7 (h.mono hk) (by decide +kernel))
 omega
theorem Le.pow (n:Nat):Le n (10 ^ n):=by
 unfold Le
 rw[ahl];exact ai5 _
theorem Le.int {n:Int} (h1: -9223372036854775808≤n) (h2:n≤9223372036854775807):Le 19 n:=by unfold Le;omega
theorem Le.succ {k n:Nat} (h:Le k (n:Int)):Le (k+1) ((n+1:Nat):Int):=by
 unfold Le at*
 rw[ajm]
 have:1≤10 ^ k:=Nat.pow_pos (by omega)
 omega
end Go.Md
namespace Go.Md
open Go.Dn
end Go.Md
namespace Go.Md
open Go.Dn
end Go.Md
namespace Go.Md
open Go.Dn
end Go.Md
namespace Go.Md
open Go.Dn
instance (d:ah):Decidable (ic d):=by unfold ic;exact inferInstance
def inR (d:ah) (lo hi pl:Int):Bool:=decide (ic d∧d.2≤pl∧lo*10 ^ d.2.toNat≤d.1∧d.1≤hi*10 ^ d.2.toNat)
theorem ad9 {d:ah} (h0:0≤d.2) (h1:d.2≤9) (k:Int):k*10 ^ 9=k*10 ^ d.2.toNat*10 ^ (9 - d.2).toNat:=by
 rw[ahf, ← Int.pow_add,show d.2.toNat+(9 - d.2).toNat=9 by omega]
theorem ae7 {d:ah} (h0:0≤d.2) (h1:d.2≤9) (k:Int):nk d≤k*10 ^ 9↔d.1≤k*10 ^ d.2.toNat:=by
 unfold nk
 rw[ad9 h0 h1]
 exact Int.mul_le_mul_right (DT _)
theorem xm (d:ah):iD d=some (if ic d then 0 else 1,()):=by
 rw[IQ]
 congr 2
 by_cases h:ic d
 ·rw[ajO h,ajO (by unfold ic at h;omega)]
 ·rw[ajN h,ajN (by unfold ic at h;omega)]
theorem BO (d:ah):mz d=some (if ic d then 0 else 1,()):=by
 rw[Pr]
 congr 2
 by_cases h:ic d
 ·rw[ajO h,ajO (by unfold ic at h;omega)]
 ·rw[ajN h,ajN (by unfold ic at h;omega)]
end Go.Md
namespace Go.Md
open Go.Dn
theorem Ck (n:Int) (h0:0≤n) (h1:n≤18):CH n=some (10 ^ n.toNat,()):=WU n h0 h1
theorem BM (d:ah):nY d=some (if inR d 0 1000000000 4=true then 0 else 1,()):=by
 unfold nY rL
 rw[xm,ajq]
 by_cases hd:ic d
 ·have hp:=DT d.2.toNat
  have hp2:(10:Int) ^ d.2.toNat≤1000000000:=by
   have:=ajl (n:=10) (by omega) (show d.2.toNat≤9 by have:=hd.2.2;omega)
   have h2:=Int.ofNat_le.2 this
   simpa using h2
  rw[Ck d.2 hd.2.1 (by have:=hd.2.2;omega)]
  dsimp only
  rw[ajO hd,zne,ajB]
  have e:inR d 0 1000000000 4=(decide (d.2≤4)&&(decide (d.1≥0)&&decide (d.1≤1000000000*10 ^ d.2.toNat))):=by
   unfold inR
   rw[← Bool.decide_and, ← Bool.decide_and,ajD,Int.zero_mul]
   constructor
   ·rintro⟨_,h2,h3,h4⟩;exact⟨h2,h3,h4⟩
   ·rintro⟨h2,h3,h4⟩;exact⟨hd,h2,h3,h4⟩
  rw[e,ajq,av (n:=1000000000*10 ^ d.2.toNat) (by omega) (by omega)]
  cases decide (d.2≤4)<;>cases decide (d.1≥0)<;>cases decide (d.1≤1000000000*10 ^ d.2.toNat)<;>rfl
 ·have:inR d 0 1000000000 4=false:=by unfold inR;simp[hd]
  simp[hd,this]
end Go.Md
namespace Go.Md
open Go.Dn
theorem OW:∀ (n:Nat) (l:List Nat),l.Nodup→(∀ x∈l,x<n)→l.length≤n
 | 0,l,_,h=>by
  cases l with
  | nil=>simp
  | cons a r=>exact absurd (h a (by simp)) (aji _)
 | n+1,l,hd,h=>by
  by_cases hm:n∈l
  ·have h1:=OW n (l.erase n) (hd.erase n) (fun x hx=>by
    have:=(hd.mem_erase_iff).1 hx
    have:=h x this.2
    omega)
   rw[List.length_erase_of_mem hm] at h1
   omega
  ·have:=OW n l hd (fun x hx=>by
    have h2:=h x hx
    have:x≠n:=fun e=>hm (e ▸ hx)
    omega)
   omega
def itp (par:Nat→Option Nat):Nat→Nat→Option Nat
 | 0,i=>some i
 | j+1,i=>(par i).bind (itp par j)
def Ed (par:Nat→Option Nat) (i k d:Nat):Prop:=itp par (d+1) k=some i∧∀ e,e<d→itp par (e+1) k≠some i
theorem Ed.uniq {par:Nat→Option Nat} {i k d e:Nat} (h:Ed par i k d) (h':Ed par i k e):d=e:=by
 rcases ajc d e with h1 | h1 | h1
 ·exact absurd h.1 (h'.2 d h1)
 ·exact h1
 ·exact absurd h'.1 (h.2 e h1)
theorem Ed.step {par:Nat→Option Nat} {i k d:Nat} (h:Ed par i k d):∃ k',par k=some k'∧((k'=i∧d=0)∨(k'≠i∧∃ e,d=e+1∧Ed par i k' e)):=by
 obtain⟨h1,h2⟩:=h
 simp only[itp] at h1
 cases hp:par k with
 | none=>rw[hp] at h1;cases h1
 | some k'=>
  rw[hp] at h1
  refine⟨k',rfl, ?_⟩
  cases d with
  | zero=>simp only[ajq,itp,Option.some.injEq] at h1;exact .inl ⟨h1,rfl⟩
  | succ e=>
   right
   refine⟨fun e1=> ?_,e,rfl,by simpa using h1,fun f hf hx=> ?_⟩
   ·refine h2 0 (by omega) ?_
    simp only[itp,hp,ajq,e1]
   ·refine h2 (f+1) (by omega) ?_
    rw[show f+1+1=(f+1)+1 from rfl]
    show (par k).bind (itp par (f+1))=some i
    rw[hp];exact hx
theorem Ed.list {par:Nat→Option Nat} {i n:Nat} (hn:∀ k k',par k=some k'→k'<n):∀ {d k:Nat},k<n→Ed par i k d→∃ l:List Nat,l.length=d+1∧l.Nodup∧(∀ x∈l,x<n)∧∀ x∈l,∃ e,e≤d∧Ed par i x e
 | 0,k,hk,h=>⟨[k],rfl,by simp,by simpa using hk,fun x hx=>by simp at hx;subst hx;exact⟨0,ai5 _,h⟩⟩
 | d+1,k,hk,h=>by
  obtain⟨k',h1,h2⟩:=h.step
  rcases h2 with ⟨_,h2⟩ | ⟨_,e,h2,h3⟩
  ·omega
  ·have:e=d:=by omega
   subst this
   obtain⟨l,l1,l2,l3,l4⟩:=Ed.list hn (hn _ _ h1) h3
   refine⟨k::l,by simp[l1],List.nodup_cons.2 ⟨fun hm=> ?_,l2⟩,fun x hx=> ?_,fun x hx=> ?_⟩
   ·obtain⟨f,f1,f2⟩:=l4 k hm
    have:=f2.uniq h
    omega
   ·rcases ais.1 hx with rfl | hx
    ·exact hk
    ·exact l3 x hx
   ·rcases ais.1 hx with rfl | hx
    ·exact⟨e+1,ai5 _,h⟩
    ·obtain⟨f,f1,f2⟩:=l4 x hx;exact⟨f,by omega,f2⟩
theorem Ed.le {par:Nat→Option Nat} {i n d k:Nat} (hn:∀ k k',par k=some k'→k'<n) (hk:k<n) (h:Ed par i k d):d+1≤n:=by
 obtain⟨l,l1,l2,l3,_⟩:=h.list hn hk
 have:=OW n l l2 l3
 omega
end Go.Md
namespace Go.Md
open Go.Dn
def Gl (c:UInt8):Bool:=decide (48≤c.toNat)&&decide (c.toNat≤57)
theorem Yo {c:UInt8}:(decide ((c.toNat:Int)<48)=false∧decide ((c.toNat:Int)>57)=false)↔Gl c=true:=by
 simp only[Gl,agW,ajH,ajF]
 omega
theorem TY (s:Bys) (hs:s.length≤9223372036854775807):rA s=some (decide (s≠[])&&s.all Gl,()):=by
 unfold rA Jf
 by_cases h0:s=[]
 ·subst h0;rfl
 ·rw[show (!(s==[]))=true by cases s<;>simp_all,ajC,ajG h0,aha]
  have loop:∀ f,s.length<f→iter f ((s,(48:Int),(57:Int),(s.length:Int),(0:Int),()):ry) wQ=(if s.all Gl=true then some (Sum.inr ()) else some (Sum.inl (false,()))):=by
   intro f hf
   refine bS (Inv:=fun i X=>X=((s,(48:Int),(57:Int),(s.length:Int),(i:Int),()):ry)∧(s.take i).all Gl=true) s.length
    (fun r=>r=(if s.all Gl=true then some (Sum.inr ()) else some (Sum.inl (false,())))) ?_ ?_ f 0 _ ⟨rfl,by simp⟩ (by omega) (by omega)
   ·rintro i _ again hi ⟨rfl,hb⟩ ih
    unfold wQ
    dsimp only
    have hy:s[i]? =some s[i]:=bP hi
    have hym:s[i]∈s:=ah8 hi
    generalize s[i]=y at hy hym
    rw[aX (by omega),SF hy,ajq,ajq,av (by omega) (by omega)]
    cases hd:Gl y with
    | true=>
     obtain⟨h1,h2⟩:=Yo.2 hd
     rw[h1,h2,ajB,ajB]
     refine ih _ ⟨rfl, ?_⟩
     rw[tW hy]
     simp[hb,hd]
    | false=>
     have hall:s.all Gl=false:=by
      rw[List.all_eq_false]
      exact⟨y,hym,by simp[hd]⟩
     rw[hall]
     cases h1:decide ((y.toNat:Int)<48) with
     | true=>rfl
     | false=>
      cases h2:decide ((y.toNat:Int)>57) with
      | true=>rfl
      | false=>have:=Yo.1 ⟨h1,h2⟩;rw[hd] at this;cases this
   ·rintro _ again ⟨rfl,hb⟩
    unfold wQ
    dsimp only
    rw[bh (by omega)]
    rw[aiT (ai5 _)] at hb
    rw[ajO hb]
  rw[loop _ (by omega)]
  cases s.all Gl<;>rfl
def qOk (d:ah) (zero:Bool):Bool:=inR d 0 1000000000 3&&(!(d.1==0)||zero)
theorem Ul {d:ah} (hd:ic d):rL d 3 1000000000=some (inR d 0 1000000000 3,()):=by
 unfold rL
 have hp:=DT d.2.toNat
 have hp2:(10:Int) ^ d.2.toNat≤1000000000:=by
  have:=ajl (n:=10) (by omega) (show d.2.toNat≤9 by have:=hd.2.2;omega)
  have h2:=Int.ofNat_le.2 this
  simpa using h2
 rw[Ck d.2 hd.2.1 (by have:=hd.2.2;omega)]
 have e:inR d 0 1000000000 3=(decide (d.2≤3)&&(decide (d.1≥0)&&decide (d.1≤1000000000*10 ^ d.2.toNat))):=by
  unfold inR
  rw[← Bool.decide_and, ← Bool.decide_and,ajD,Int.zero_mul]
  constructor
  ·rintro⟨_,h2,h3,h4⟩;exact⟨h2,h3,h4⟩
  ·rintro⟨h2,h3,h4⟩;exact⟨hd,h2,h3,h4⟩
 rw[e,ajq,av (n:=1000000000*10 ^ d.2.toNat) (by omega) (by omega)]
 cases decide (d.2≤3)<;>cases decide (d.1≥0)<;>cases decide (d.1≤1000000000*10 ^ d.2.toNat)<;>rfl
theorem yd (d:ah) (z:Bool):kK d z=some (if qOk d z=true then 0 else 1,()):=by
 unfold kK qOk
 rw[xm,ajq]
 by_cases hd:ic d
 ·rw[Ul hd,ajO hd]
  dsimp only
  rw[zne,ajB,ajq]
  cases inR d 0 1000000000 3<;>cases (d.1==0)<;>cases z<;>rfl
 ·have:inR d 0 1000000000 3=false:=by unfold inR;simp[hd]
  simp[hd,this]
end Go.Md
