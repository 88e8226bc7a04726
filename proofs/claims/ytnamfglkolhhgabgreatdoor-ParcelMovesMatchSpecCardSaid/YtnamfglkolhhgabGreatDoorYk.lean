/-
  Plain facts: what is in parcels; parcels moved, opened and joined by both sides; the plain law is true of all data. No condition.
-/
import Derived.Test.YtnamfglkolhhgabGreatDoorYo
import Derived.Test.YtnamfglkolhhgabGreatDoorYu
import Derived.Test.YtnamfglkolhhgabGreatDoorYq
set_option linter.all false
set_option linter.all false
set_option maxRecDepth 20000
namespace Go.Md
open Go.Dn
abbrev Tw:Type:=List UInt8×List UInt8
def pV (k:Tw):List (Tw×Int)→Option Int
 | []=>none
 | p::r=>if k=p.1 then some p.2 else pV k r
def mw (k:Tw) (z:Int):List (Tw×Int)→List (Tw×Int)
 | []=>[(k,z)]
 | p::r=>if k=p.1 then (k,p.2+z)::r else p::mw k z r
def M24:Nat:=10 ^ 24
def Sm (n:Nat) (S:List (Tw×Int)):Prop:=∀ p∈S,p.2.natAbs≤n*M24
theorem Sm.add {n:Nat} {S:List (Tw×Int)} (h:Sm n S) {k:Tw} {z:Int} (hz:z.natAbs≤10 ^ 24):Sm (n+1) (mw k z S):=by
 have hz:z.natAbs≤M24:=hz
 have e:(n+1)*M24=n*M24+M24:=by rw[aa0,abi]
 induction S with
 | nil=>
  intro p hp
  rcases aaG.1 hp with rfl
  show z.natAbs≤_
  rw[e];omega
 | cons q r ih=>
  have h1:=h q aay
  intro p hp
  simp only[mw] at hp
  split at hp
  ·rcases aaw.1 hp with rfl | hp
   ·show (q.2+z).natAbs≤_
    rw[e];omega
   ·have:=h p (aax _ hp)
    rw[e];omega
  ·rcases aaw.1 hp with rfl | hp
   ·rw[e];omega
   ·exact ih (fun x hx=>h x (aax _ hx)) p hp
theorem Sm.le {n:Nat} {S:List (Tw×Int)} (h:Sm n S) (hn:n≤1000000) {p:Tw×Int} (hp:p∈S):p.2.natAbs≤10 ^ 30:=by
 have h1:=h p hp
 have h2:=abg M24 hn
 exact aa8 h1 (aa8 h2 (by unfold M24;decide))
theorem Fm (k:Tw) (z:Int):∀ S:List (Tw×Int),(∀ p,p∈mw k z S→p.1=k∨∃ q∈S,q.1=p.1)
 | [],p,hp=>by rcases aaG.1 hp with rfl;exact .inl rfl
 | q::r,p,hp=>by
  simp only[mw] at hp
  split at hp
  ·rcases aaw.1 hp with rfl | hp
   ·exact .inl rfl
   ·exact .inr ⟨p,aax _ hp,rfl⟩
  ·rcases aaw.1 hp with rfl | hp
   ·exact .inr ⟨p,aay,rfl⟩
   ·rcases Fm k z r p hp with h | ⟨x,hx,h⟩
    ·exact .inl h
    ·exact .inr ⟨x,aax _ hx,h⟩
theorem SY (k:Tw) (z:Int):∀ S:List (Tw×Int),(S.map (·.1)).Nodup→((mw k z S).map (·.1)).Nodup
 | [],_=>by simp[mw]
 | q::r,h=>by
  rw[aat,aaJ] at h
  simp only[mw]
  split
  ·rename_i e
   rw[aat,aaJ,e];exact h
  ·rename_i e
   rw[aat,aaJ]
   refine⟨fun hm=> ?_,SY k z r h.2⟩
   obtain⟨p,hp,e1⟩:=aaB.1 hm
   rcases Fm k z r p hp with h1 | ⟨x,hx,h1⟩
   ·exact e (by rw[← h1,e1])
   ·exact h.1 (aaB.2 ⟨x,hx,h1.trans e1⟩)
theorem PD (k:Tw) (z:Int):∀ S:List (Tw×Int),(mw k z S).length≤S.length+1
 | []=>by simp[mw]
 | q::r=>by
  have ih:=PD k z r
  simp only[mw]
  split
  ·simp
  ·simp only[aaj];omega
structure PA (n:Nat) (S:List (Tw×Int)):Prop where
 sm:Sm n S
 nd:(S.map (·.1)).Nodup
 st:∀ p∈S,p.1.1.length≤1000∧p.1.2.length≤1000
 len:S.length≤n
theorem PA.nil:PA 0 []:=⟨fun _ h=>(by cases h),List.nodup_nil,fun _ h=>(by cases h),aa7 _⟩
theorem PA.add {n:Nat} {S:List (Tw×Int)} (h:PA n S) {k:Tw} {z:Int} (hz:z.natAbs≤10 ^ 24) (hk:k.1.length≤1000∧k.2.length≤1000):PA (n+1) (mw k z S):=
 ⟨h.sm.add hz,SY k z S h.nd,fun p hp=>by
   rcases Fm k z S p hp with e | ⟨q,hq,e⟩
   ·rw[e];exact hk
   ·rw[← e];exact h.st q hq,aa8 (PD k z S) (Nat.succ_le_succ h.len)⟩
structure YX (c:ah):Prop where
 d:cK c.2.2.2
 n1:c.1.length≤1000
 n2:c.2.1.length≤1000
end Go.Md
set_option linter.all false
set_option maxRecDepth 20000
namespace Go.Md
open Go.Dn
theorem BI {a b:Tw}:s7 a b<0↔Op.bytesLess a.1 b.1=true∨(a.1=b.1∧Op.bytesLess a.2 b.2=true):=by
 unfold s7
 by_cases h:Lib.compareBytes a.1 b.1=0
 ·rw[show (Lib.compareBytes a.1 b.1==0)=true by simpa using h,abB,jx]
  have e:=gp.1 h
  constructor
  ·intro h2;exact .inr ⟨e,h2⟩
  ·rintro (h2 | ⟨_,h2⟩)
   ·rw[e,dD] at h2;cases h2
   ·exact h2
 ·rw[show (Lib.compareBytes a.1 b.1==0)=false by simpa using h,abA,jx]
  constructor
  ·exact .inl
  ·rintro (h2 | ⟨e,_⟩)
   ·exact h2
   ·exact absurd (gp.2 e) h
theorem BJ (a b:Tw):s7 a b<0∨a=b∨s7 b a<0:=by
 rw[BI,BI]
 rcases gY a.1 b.1 with h | h | h
 ·exact .inl (.inl h)
 ·rcases gY a.2 b.2 with g | g | g
  ·exact .inl (.inr ⟨h,g⟩)
  ·exact .inr (.inl (Prod.ext h g))
  ·exact .inr (.inr (.inr ⟨h.symm,g⟩))
 ·exact .inr (.inr (.inl h))
def ksS (S:List (Tw×Int)):List Tw:=(S.map (·.1)).mergeSort fun x y=> !decide (s7 y x<0)
theorem QV (S:List (Tw×Int)):(ksS S).Perm (S.map (·.1)):=aaH _ _
def Yu (S:List (Tw×Int)) (k:Tw):Int:=(pV k S).getD 0
end Go.Md
set_option linter.all false
set_option maxRecDepth 20000
namespace Go.Md
open Go.Dn
structure SOr {κ:Type} (lt:κ→κ→Bool):Prop where
 irr:∀ a,lt a a=false
 tr:∀ {a b c},lt a b=true→lt b c=true→lt a c=true
 tri:∀ a b,lt a b=true∨a=b∨lt b a=true
theorem Ce {κ:Type} {lt:κ→κ→Bool} (irr:∀ a,lt a a=false) (tr:∀ {a b c},lt a b=true→lt b c=true→lt a c=true):∀ {l l':List κ},l.Pairwise (fun a b=>lt a b=true)→l'.Pairwise (fun a b=>lt a b=true)→(∀ x,x∈l↔x∈l')→l=l'
 | [],[],_,_,_=>rfl
 | [],y::r,_,_,hm=>by have:=(hm y).2 aay;cases this
 | x::l,[],_,_,hm=>by have:=(hm x).1 aay;cases this
 | x::l,y::r,h1,h2,hm=>by
  rw[aaL] at h1 h2
  have hxy:x=y:=by
   rcases aaw.1 ((hm x).1 aay) with e | hx
   ·exact e
   rcases aaw.1 ((hm y).2 aay) with e | hy
   ·exact e.symm
   have a1:=h2.1 x hx
   have a2:=h1.1 y hy
   have a3:=tr a1 a2
   rw[irr] at a3;cases a3
  subst hxy
  have:l=r:=by
   refine Ce irr tr h1.2 h2.2 fun z=>⟨fun hz=> ?_,fun hz=> ?_⟩
   ·rcases aaw.1 ((hm z).1 (aax _ hz)) with e | hz'
    ·have:=h1.1 z hz;rw[e,irr] at this;cases this
    ·exact hz'
   ·rcases aaw.1 ((hm z).2 (aax _ hz)) with e | hz'
    ·have:=h2.1 z hz;rw[e,irr] at this;cases this
    ·exact hz'
  rw[this]
theorem Pf {κ:Type} {lt:κ→κ→Bool} (h:SOr lt) {l l':List κ} (h1:l.Pairwise (fun a b=>lt a b=true)) (h2:l'.Pairwise (fun a b=>lt a b=true)) (hm:∀ x,x∈l↔x∈l'):l=l':=
 Ce h.irr h.tr h1 h2 hm
section
variable {κ:Type} [DecidableEq κ] (lt:κ→κ→Bool)
def rG (k:κ) (z:Int):List (κ×Int)→List (κ×Int)
 | []=>[(k,z)]
 | p::r=>if lt p.1 k=true then p::rG k z r else if p.1=k then (p.1,p.2+z)::r else (k,z)::p::r
def jj (k:κ):List (κ×Int)→Option Int
 | []=>none
 | p::r=>if k=p.1 then some p.2 else jj k r
def ye (R:List (κ×Int)):Prop:=R.Pairwise fun a b=>lt a.1 b.1=true
variable {lt}
theorem PB {k:κ} {z:Int}:∀ {R:List (κ×Int)} {q:κ×Int},q∈rG lt k z R→q.1=k∨q∈R
 | [],q,h=>by simp[rG] at h;exact .inl (by rw[h])
 | p::r,q,h=>by
  unfold rG at h
  split at h
  ·rcases aaw.1 h with e | h
   ·exact .inr (by rw[e];exact aay)
   ·rcases PB h with e | h
    ·exact .inl e
    ·exact .inr (aax _ h)
  ·split at h
   ·rename_i e
    rcases aaw.1 h with e2 | h
    ·exact .inl (by rw[e2];exact e)
    ·exact .inr (aax _ h)
   ·rcases aaw.1 h with e2 | h
    ·exact .inl (by rw[e2])
    ·exact .inr h
theorem Ni {k:κ} {z:Int}:∀ {R:List (κ×Int)} (x:κ),x∈(rG lt k z R).map (·.1)↔x=k∨x∈R.map (·.1)
 | [],x=>by simp[rG]
 | p::r,x=>by
  unfold rG
  split
  ·rw[aat,aaw,Ni (R:=r) x,aat,aaw]
   constructor
   ·rintro (h | h | h)
    ·exact .inr (.inl h)
    ·exact .inl h
    ·exact .inr (.inr h)
   ·rintro (h | h | h)
    ·exact .inr (.inl h)
    ·exact .inl h
    ·exact .inr (.inr h)
  ·split
   ·rename_i e
    simp only[aat,aaw,e]
    constructor
    ·rintro (h | h)
     ·exact .inl h
     ·exact .inr (.inr h)
    ·rintro (h | h | h)
     ·exact .inl h
     ·exact .inl h
     ·exact .inr h
   ·simp only[aat,aaw]
theorem PC (ho:SOr lt) {k:κ} {z:Int}:∀ {R:List (κ×Int)},ye lt R→ye lt (rG lt k z R)
 | [],_=>by unfold rG ye;exact List.pairwise_singleton _ _
 | p::r,h=>by
  unfold ye at h
  rw[aaL] at h
  unfold rG
  split
  ·rename_i hlt
   unfold ye
   rw[aaL]
   refine⟨fun q hq=> ?_,PC ho h.2⟩
   rcases PB hq with e | hq
   ·rw[e];exact hlt
   ·exact h.1 q hq
  ·split
   ·unfold ye
    rw[aaL]
    exact⟨fun q hq=>h.1 q hq,h.2⟩
   ·rename_i h1 h2
    have hkp:lt k p.1=true:=by
     rcases ho.tri k p.1 with a | a | a
     ·exact a
     ·exact absurd a.symm h2
     ·exact absurd a h1
    unfold ye
    rw[aaL]
    refine⟨fun q hq=> ?_,aaL.2 h⟩
    rcases aaw.1 hq with e | hq
    ·rw[e];exact hkp
    ·exact ho.tr hkp (h.1 q hq)
theorem KQ {k:κ}:∀ {R:List (κ×Int)},k∉R.map (·.1)→jj k R=none
 | [],_=>rfl
 | p::r,h=>by
  simp only[aat,aaw,abS] at h
  unfold jj
  rw[abN h.1]
  exact KQ h.2
theorem DU (ho:SOr lt) {k:κ} {z:Int} (j:κ):∀ {R:List (κ×Int)},ye lt R→jj j (rG lt k z R)=if j=k then some ((jj k R).getD 0+z) else jj j R
 | [],_=>by
  unfold rG
  by_cases e:j=k
  ·rw[abO e];simp[jj,e]
  ·rw[abN e];simp[jj,e]
 | p::r,h=>by
  unfold ye at h
  rw[aaL] at h
  unfold rG
  split
  ·rename_i hlt
   have hpk:k≠p.1:=fun e=>by rw[← e,ho.irr] at hlt;cases hlt
   by_cases e:j=k
   ·rw[abO e]
    have hpj:j≠p.1:=by rw[e];exact hpk
    show (if j=p.1 then some p.2 else jj j (rG lt k z r))=some (((if k=p.1 then some p.2 else jj k r)).getD 0+z)
    rw[abN hpj,DU ho j h.2,abO e,abN hpk]
   ·rw[abN e]
    show (if j=p.1 then some p.2 else jj j (rG lt k z r))=(if j=p.1 then some p.2 else jj j r)
    rw[DU ho j h.2,abN e]
  ·split
   ·rename_i h1 h2
    by_cases e:j=k
    ·rw[abO e]
     show (if j=p.1 then some (p.2+z) else jj j r)=some (((if k=p.1 then some p.2 else jj k r)).getD 0+z)
     rw[abO (e.trans h2.symm),abO h2.symm];rfl
    ·rw[abN e]
     show (if j=p.1 then some (p.2+z) else jj j r)=(if j=p.1 then some p.2 else jj j r)
     have:j≠p.1:=fun e2=>e (e2.trans h2)
     rw[abN this,abN this]
   ·rename_i h1 h2
    have hk:k∉(p::r).map (·.1):=by
     have hkp:lt k p.1=true:=by
      rcases ho.tri k p.1 with a | a | a
      ·exact a
      ·exact absurd a.symm h2
      ·exact absurd a h1
     intro hm
     rw[aat] at hm
     rcases aaw.1 hm with e | hm
     ·exact h2 e.symm
     ·obtain⟨q,hq,e⟩:=aaB.1 hm
      have:=ho.tr hkp (h.1 q hq)
      rw[e,ho.irr] at this;cases this
    by_cases e:j=k
    ·rw[abO e,KQ hk]
     show (if j=k then some z else _)=_
     rw[abO e];simp
    ·rw[abN e]
     show (if j=k then some z else jj j (p::r))=_
     rw[abN e]
def lB (lt:κ→κ→Bool) (k:κ):List κ→Nat
 | []=>0
 | p::r=>if lt p k=true then lB lt k r+1 else 0
theorem MT (k:κ):∀ l:List κ,lB lt k l≤l.length
 | []=>aa7 _
 | p::r=>by
  unfold lB
  split
  ·have:=MT k r;simp;omega
  ·simp
theorem TC (k:κ):∀ {l:List κ} {i:Nat} {x:κ},i<lB lt k l→l[i]? =some x→lt x k=true
 | p::r,0,x,h,hx=>by
  unfold lB at h
  split at h
  ·rename_i hp;cases hx;exact hp
  ·omega
 | p::r,i+1,x,h,hx=>by
  unfold lB at h
  split at h
  ·exact TC k (l:=r) (by omega) hx
  ·omega
 | [],i,x,h,hx=>by simp at hx
theorem TB (k:κ):∀ {l:List κ} {x:κ},l[lB lt k l]? =some x→lt x k=false
 | [],x,hx=>by simp at hx
 | p::r,x,hx=>by
  unfold lB at hx
  split at hx
  ·exact TB k (l:=r) hx
  ·rename_i hp
   cases hx
   cases h:lt p k with
   | false=>rfl
   | true=>exact absurd h hp
end
def GZ (a b:Tw):Bool:=decide (s7 a b<0)
theorem tT {a b:Tw}:GZ a b=true↔s7 a b<0:=by unfold GZ;exact decide_eq_true_iff
theorem xh {a b c:Tw} (h1:s7 a b<0) (h2:s7 b c<0):s7 a c<0:=by
 rw[BI] at h1 h2 ⊢
 rcases h1 with h1 | ⟨e1,h1⟩<;>rcases h2 with h2 | ⟨e2,h2⟩
 ·exact .inl (cQ h1 h2)
 ·exact .inl (by rw[← e2];exact h1)
 ·exact .inl (by rw[e1];exact h2)
 ·exact .inr ⟨e1.trans e2,cQ h1 h2⟩
theorem BH (a:Tw):¬ s7 a a<0:=by
 rw[BI]
 rintro (h | ⟨_,h⟩)<;>rw[dD] at h<;>cases h
theorem UM:SOr GZ:=⟨fun a=>by
 cases h:GZ a a with
 | false=>rfl
 | true=>exact absurd (tT.1 h) (BH a),fun h1 h2=>tT.2 (xh (tT.1 h1) (tT.1 h2)),
 fun a b=>by
  rcases BJ a b with h | h | h
  ·exact .inl (tT.2 h)
  ·exact .inr (.inl h)
  ·exact .inr (.inr (tT.2 h))⟩
structure yP (R S:List (Tw×Int)):Prop where
 srt:ye GZ R
 look:∀ k,jj k R=pV k S
 keys:∀ k,k∈R.map (·.1)↔k∈S.map (·.1)
theorem yP.nil:yP [] []:=⟨List.Pairwise.nil,fun _=>rfl,fun _=>Iff.rfl⟩
theorem KR (k:Tw) (z:Int) (j:Tw):∀ S:List (Tw×Int),pV j (mw k z S)=if j=k then some ((pV k S).getD 0+z) else pV j S
 | []=>by
  by_cases e:j=k
  ·rw[abO e];simp[mw,pV,e]
  ·rw[abN e];simp[mw,pV,e]
 | p::r=>by
  unfold mw
  split
  ·rename_i h
   by_cases e:j=k
   ·rw[abO e]
    show (if j=k then some (p.2+z) else pV j r)=some (((if k=p.1 then some p.2 else pV k r)).getD 0+z)
    rw[abO e,abO h];rfl
   ·rw[abN e]
    show (if j=k then some (p.2+z) else pV j r)=(if j=p.1 then some p.2 else pV j r)
    rw[abN e,abN (fun e2=>e (e2.trans h.symm))]
  ·rename_i h
   show (if j=p.1 then some p.2 else pV j (mw k z r))=_
   rw[KR k z j r]
   by_cases e:j=k
   ·rw[abO e,abO e,abN (fun e2=>h (e.symm.trans e2))]
    show _=some (((if k=p.1 then some p.2 else pV k r)).getD 0+z)
    rw[abN h]
   ·rw[abN e,abN e];rfl
theorem PE (k:Tw) (z:Int) (x:Tw):∀ S:List (Tw×Int),x∈(mw k z S).map (·.1)↔x=k∨x∈S.map (·.1)
 | []=>by simp[mw]
 | p::r=>by
  unfold mw
  split
  ·rename_i h
   simp only[aat,aaw, ← h]
   constructor
   ·rintro (h | h)
    ·exact .inl h
    ·exact .inr (.inr h)
   ·rintro (h | h | h)
    ·exact .inl h
    ·exact .inl h
    ·exact .inr h
  ·rw[aat,aaw,PE k z x r,aat,aaw]
   constructor
   ·rintro (h | h | h)
    ·exact .inr (.inl h)
    ·exact .inl h
    ·exact .inr (.inr h)
   ·rintro (h | h | h)
    ·exact .inr (.inl h)
    ·exact .inl h
    ·exact .inr (.inr h)
theorem yP.add {R S:List (Tw×Int)} (h:yP R S) (k:Tw) (z:Int):yP (rG GZ k z R) (mw k z S):=
 ⟨PC UM h.srt,fun j=>by rw[DU UM j h.srt,KR,h.look,h.look],fun x=>by rw[Ni,PE,h.keys]⟩
theorem XC {S:List (Tw×Int)} (hnd:(S.map (·.1)).Nodup):(ksS S).Pairwise fun a b=>GZ a b=true:=by
 have hs:(ksS S).Pairwise fun x y=>(!decide (s7 y x<0))=true:=by
  refine List.pairwise_mergeSort ?_ ?_ _
  ·intro a b c h1 h2
   rw[Zm,abE] at h1 h2 ⊢
   intro hca
   rcases BJ b c with h | h | h
   ·exact h1 (xh h hca)
   ·rw[h] at h1;exact h1 hca
   ·exact h2 h
  ·intro a b
   rw[Zq,Zm,Zm,abE,abE]
   rcases BJ a b with h | h | h
   ·exact .inl fun h2=>BH _ (xh h h2)
   ·rw[h];exact .inl (BH _)
   ·exact .inr fun h2=>BH _ (xh h h2)
 have hn:(ksS S).Pairwise fun x y=>x≠y:=(QV S).nodup_iff.2 hnd
 refine (hs.and hn).imp ?_
 intro a b ⟨h1,h2⟩
 rw[Zm,abE] at h1
 rcases BJ a b with h | h | h
 ·exact tT.2 h
 ·exact absurd h h2
 ·exact absurd h h1
theorem yP.ks {R S:List (Tw×Int)} (h:yP R S) (hnd:(S.map (·.1)).Nodup):R.map (·.1)=ksS S:=by
 refine Pf UM ?_ (XC hnd) fun x=> ?_
 ·rw[aaN];exact h.srt
 ·rw[h.keys,(QV S).mem_iff]
theorem WK {R:List (Tw×Int)} (h:ye GZ R) {p:Tw×Int} (hp:p∈R):jj p.1 R=some p.2:=by
 induction R with
 | nil=>cases hp
 | cons q r ih=>
  unfold ye at h
  rw[aaL] at h
  unfold jj
  rcases aaw.1 hp with rfl | hp
  ·rw[abO rfl]
  ·rw[abN (fun e=>by have:=h.1 p hp;rw[e,UM.irr] at this;cases this)]
   exact ih h.2 hp
theorem yP.val {R S:List (Tw×Int)} (h:yP R S) {p:Tw×Int} (hp:p∈R):Yu S p.1=p.2:=by
 unfold Yu
 rw[← h.look,WK h.srt hp];rfl
end Go.Md
set_option linter.all false
set_option maxRecDepth 20000
namespace Go.Md
open Go.Dn
def D9 (l:List aa) (p:aa):List aa:=l.take (lB Op.bytesLess p.1 (l.map (·.1)))++p::l.drop (lB Op.bytesLess p.1 (l.map (·.1)))
theorem LD {l:List aa}:Asc (·.1) l↔l.Pairwise fun a b=>Op.bytesLess a.1 b.1=true:=by
 constructor
 ·intro h
  refine aaM.2 ?_
  intro i j hi hj hij
  exact h i j l[i] l[j] hij (Z4 hi) (Z4 hj)
 ·intro h i j a b hij ha hb
  obtain⟨i1,i2⟩:=Z6.1 ha
  obtain⟨j1,j2⟩:=Z6.1 hb
  have:=aaM.1 h i j i1 j1 hij
  rw[i2,j2] at this
  exact this
theorem GB (l:List aa) (p:aa):(D9 l p).Perm (l++[p]):=by
 unfold D9
 generalize lB Op.bytesLess p.1 (l.map (·.1))=k
 have h:(l.take k++p::l.drop k).Perm (l.take k++(l.drop k++[p])):=List.Perm.append_left _ (List.perm_append_comm (l₁:=[p]) (l₂:=l.drop k))
 rw[← ZJ,aaU] at h
 exact h
theorem WT {l:List aa} {p:aa} (h:Asc (·.1) l) (hp:∀ q∈l,q.1≠p.1):Asc (·.1) (D9 l p):=by
 rw[LD] at h ⊢
 unfold D9
 have hle:=MT (lt:=Op.bytesLess) p.1 (l.map (·.1))
 rw[aal] at hle
 have hlo:∀ (i:Nat) (q:aa),i<lB Op.bytesLess p.1 (l.map (·.1))→l[i]? =some q→Op.bytesLess q.1 p.1=true:=fun i q hi hq=>TC (lt:=Op.bytesLess) p.1 hi (by rw[Z7,hq];rfl)
 have hhi:∀ (q:aa),l[lB Op.bytesLess p.1 (l.map (·.1))]? =some q→Op.bytesLess p.1 q.1=true:=fun q hq=>by
  have h1:=TB (lt:=Op.bytesLess) p.1 (l:=l.map (·.1)) (x:=q.1) (by rw[Z7,hq];rfl)
  rcases gY p.1 q.1 with g | g | g
  ·exact g
  ·exact absurd g.symm (hp q (aaC hq))
  ·rw[g] at h1;cases h1
 generalize lB Op.bytesLess p.1 (l.map (·.1))=k at*
 have hd:∀ q∈l.drop k,Op.bytesLess p.1 q.1=true:=by
  intro q hq
  obtain⟨i,hi⟩:=aaA.1 hq
  rw[Z3] at hi
  have hlt:=(Z6.1 hi).1
  have hk:l[k]? =some (l[k]'(by omega)):=Z4 _
  have h1:=hhi _ hk
  by_cases e:i=0
  ·subst e;rw[aa1,hk] at hi;cases hi;exact h1
  ·have h2:=aaM.1 h k (k+i) (by omega) hlt (by omega)
   rw[(Z6.1 hi).2] at h2
   exact cQ h1 h2
 have ht:∀ q∈l.take k,Op.bytesLess q.1 p.1=true:=by
  intro q hq
  obtain⟨i,hi⟩:=aaA.1 hq
  have hik:i<k:=by
   have:=(Z6.1 hi).1
   rw[aaq] at this;omega
  rw[aad hik] at hi
  exact hlo i q hik hi
 rw[aaK]
 refine⟨h.sublist (List.take_sublist _ _),aaL.2 ⟨hd,h.sublist (List.drop_sublist _ _)⟩, ?_⟩
 intro a ha b hb
 rcases aaw.1 hb with rfl | hb
 ·exact ht a ha
 ·exact cQ (ht a ha) (hd b hb)
theorem Wk {l l':List aa} (h:Asc (·.1) l) (h':Asc (·.1) l') (hp:l.Perm l'):l=l':=
 Ce (lt:=fun a b:aa=>Op.bytesLess a.1 b.1) (fun a=>dD _) (fun h1 h2=>cQ h1 h2) (LD.1 h) (LD.1 h') fun x=>hp.mem_iff
end Go.Md
set_option linter.all false
set_option maxRecDepth 20000
namespace Go.Md
open Go.Dn
theorem RQ {l:List aa} (hl:l.length≤500):bN l=some (l,()):=by
 have vQ:maxLen=9223372036854775807:=rfl
 unfold bN
 have e:(chk (decide ((0+(List.length l))*72≤140737488355328)&&decide (0+(List.length l)≤maxLen)) (some (l,())))=some (l,()):=aQ (by rw[Zd];exact⟨abF (by omega),abF (by omega)⟩) _
 cases l with
 | nil=>
  rw[aah,abB,e]
  exact xo _
 | cons a r=>rw[aag,abA,e]
theorem RP {l:List ah} (hl:l.length≤100):gQ l=some (l,()):=by
 have vQ:maxLen=9223372036854775807:=rfl
 unfold gQ
 have e:(chk (decide ((0+(List.length l))*64≤140737488355328)&&decide (0+(List.length l)≤maxLen)) (some (l,())))=some (l,()):=aQ (by rw[Zd];exact⟨abF (by omega),abF (by omega)⟩) _
 cases l with
 | nil=>
  rw[aah,abB,e]
  exact xo _
 | cons a r=>rw[aag,abA,e]
theorem uA {l:List aa} (hl:l.length≤500) (hps:∀ p∈l,Wi p):dW l=some (l,()):=by
 unfold dW
 rw[RQ hl,abo]
 dsimp only
 have loop:∀ f,l.length<f→iter (X:=fE) (β:=iN) f ((l.length:Int),0,l,()) iM=some (Sum.inr (l,())):=by
  intro f hf
  refine bI (Inv:=fun i X=>X=(((l.length:Int),(i:Int),l,()):fE)) l.length (fun r=>r=some (Sum.inr (l,()))) ?_ ?_ f 0 _ rfl (abn _) (by omega)
  ·rintro i X again hi rfl hag
   unfold iM
   dsimp only
   have hy:l[i]? =some l[i]:=Z4 hi
   rw[aB (by omega),aQ (by rw[Zd];exact⟨abF (by omega),abF (by omega)⟩),ZD,hy,abo,RP (hps _ (aaf hi)).n,abo,aQ (by rw[Zd];exact⟨abF (by omega),abF (by omega)⟩),abo,aC (n:=(i:Int)+1) (by omega) (by omega)]
   refine hag _ ?_
   have:l.set i ((l[i]).1,(l[i]).2.1,(l[i]).2.2.1,(l[i]).2.2.2)=l:=List.set_getElem_self hi
   rw[this];rfl
  ·rintro X again rfl
   unfold iM
   dsimp only
   rw[aF (by omega)]
 rw[loop _ (by rw[Int.natAbs_natCast];omega),aM]
theorem OF (l:List ah) (hl:l.length≤9000000000000000000):gT l l=some (true,()):=by
 unfold gT
 rw[show (((l.length:Int)) != ((l.length:Int)))=false by simp,abA]
 have loop:∀ f,l.length<f→iter (X:=dL) (β:=fm) f (l,l,(l.length:Int),0,()) fk=some (Sum.inr ()):=by
  intro f hf
  refine bI (Inv:=fun i X=>X=((l,l,(l.length:Int),(i:Int),()):dL)) l.length (fun r=>r=some (Sum.inr ())) ?_ ?_ f 0 _ rfl (by omega) (by omega)
  ·rintro i X again hi rfl hag
   unfold fk
   dsimp only
   have hy:l[i]? =some l[i]:=Z4 hi
   rw[aB (by omega),bq,hy,abo,abo]
   simp only[aby,Bool.and_self,Zo,abA]
   rw[aC (by omega) (by omega)]
   exact hag _ rfl
  ·rintro X again rfl
   unfold fk
   dsimp only
   rw[aF (by omega)]
 rw[loop _ (by omega),aM]
theorem M4 (l:List aa) (hl:l.length≤9000000000000000000) (hc:∀ q∈l,q.2.2.2.length≤9000000000000000000):pZ l l=some (true,()):=by
 unfold pZ
 rw[show (((l.length:Int)) != ((l.length:Int)))=false by simp,abA]
 have loop:∀ f,l.length<f→iter (X:=iV) (β:=l8) f (l,l,(l.length:Int),0,()) l7=some (Sum.inr ()):=by
  intro f hf
  refine bI (Inv:=fun i X=>X=((l,l,(l.length:Int),(i:Int),()):iV)) l.length (fun r=>r=some (Sum.inr ())) ?_ ?_ f 0 _ rfl (by omega) (by omega)
  ·rintro i X again hi rfl hag
   unfold l7
   dsimp only
   have hy:l[i]? =some l[i]:=Z4 hi
   rw[aB (by omega),bq,hy,abo,abo]
   simp only[aby,Bool.and_self,Zo,abA]
   rw[OF _ (hc _ (aaf hi)),abo]
   dsimp only
   rw[Zo,abA,aC (by omega) (by omega)]
   exact hag _ rfl
  ·rintro X again rfl
   unfold l7
   dsimp only
   rw[aF (by omega)]
 rw[loop _ (by omega),aM]
theorem XR (a:an) (hl:a.2.2.2.length≤9000000000000000000) (hc:∀ q∈a.2.2.2,q.2.2.2.length≤9000000000000000000):tH a a=some (true,()):=by
 unfold tH
 rw[show (a.1==a.1)=true by simp,show (a.2.1==a.2.1)=true by simp,show (a.2.2.1==a.2.2.1)=true by simp,abB,abB,abB,M4 _ hl hc]
 rfl
theorem PX {l:List ah} (hl:l.length≤1000):dS l=some (l,()):=by
 have vQ:maxLen=9223372036854775807:=rfl
 unfold dS
 have e:(chk (decide ((0+(List.length l))*64≤140737488355328)&&decide (0+(List.length l)≤maxLen)) (some (l,())))=some (l,()):=aQ (by rw[Zd];exact⟨abF (by omega),abF (by omega)⟩) _
 cases l with
 | nil=>
  rw[aah,abB,e]
  exact xo _
 | cons a r=>rw[aag,abA,e]
theorem XH {s:List UInt8} (h:lbl s=true):s≠[]:=fun e=>by
 unfold lbl at h
 simp only[Zd,abG] at h
 have:=h.1
 rw[e] at this;cases this
theorem VE {a:an} (h:bV a=0):∀ p∈a.2.2.2,p.1≠[]:=by
 unfold bV at h
 split at h
 ·omega
 split at h
 ·omega
 split at h
 ·omega
 split at h
 ·omega
 split at h
 ·omega
 have h3:bS (gN a.2.2.2) 0 a.2.2.2=0:=by omega
 intro p hp
 obtain⟨i,hi⟩:=aaA.1 hp
 have:=dO h3 i p hi
 unfold gN at this
 split at this
 ·omega
 rename_i h1
 exact XH (by simpa using h1)
theorem QO (t:List UInt8) (l:List aa):cn (fun x:aa=>x.1) t l=(l.map (·.1)).findIdx? (· ==t):=by
 unfold cn
 rw[List.findIdx?_map];rfl
theorem rF.set {a:an} (hf:rF a) {i:Nat} {p:aa} (hp:a.2.2.2[i]? =some p) (q:List UInt8×ai×List ah):rF (a.1,a.2.1,a.2.2.1,a.2.2.2.set i (p.1,q)):=by
 intro x hx
 rcases aaE hx with h | h
 ·exact hf x h
 ·rw[h];exact hf p (aaC hp)
theorem K8 {d:ai} {z:Bool} (h:qOk d z=true):0≤d.1:=by
 unfold qOk inR at h
 simp only[Zd,abG] at h
 have h3:=h.1.2.2.1
 rw[Int.zero_mul] at h3
 exact h3
structure PaN (p:aa):Prop where
 t:0≤p.2.2.1.1
 c:∀ c∈p.2.2.2,0≤c.2.2.2.1
theorem Yh {a:an} (h:bV a=0):∀ p∈a.2.2.2,PaN p:=by
 unfold bV at h
 split at h
 ·omega
 split at h
 ·omega
 split at h
 ·omega
 split at h
 ·omega
 split at h
 ·omega
 have h3:bS (gN a.2.2.2) 0 a.2.2.2=0:=by omega
 intro p hp
 obtain⟨i,hi⟩:=aaA.1 hp
 have:=dO h3 i p hi
 unfold gN at this
 split at this
 ·omega
 split at this
 ·omega
 split at this
 ·omega
 rename_i hq
 refine⟨K8 (z:=true) (by simpa using hq), ?_⟩
 unfold eY at this
 split at this
 ·omega
 intro c hc
 obtain⟨j,hj⟩:=aaA.1 hc
 have:=dO this j c hj
 unfold wR at this
 split at this
 ·omega
 split at this
 ·omega
 split at this
 ·omega
 split at this
 ·omega
 split at this
 ·rename_i hq;exact K8 hq
 ·omega
def dB (x:an):Prop:=x.2.2.2.length≤1000∧∀ q∈x.2.2.2,q.2.2.2.length≤1000
theorem dB.same {x:an} (h:dB x):tH x x=some (true,()):=XR x (by have:=h.1;omega) fun q hq=>by have:=h.2 q hq;omega
theorem dB.zero:dB ([],[],0,[]):=⟨abn _,fun q h=>by cases h⟩
theorem dB.of {x:an} (h:bV x=0):dB x:=⟨by have:=(gX h).len;omega,fun q hq=>by have:=(uj h q hq).n;omega⟩
theorem XI {l:List aa} (hs:Asc (·.1) l) {to:List UInt8} {i k:Nat} (hK:cn (fun x:aa=>x.1) to l=some k):to∈(ins l i l.length).map (lab l)↔k=i∨i∈eD l k:=by
 obtain⟨y,hy,e⟩:=iR hK
 have hkl:=(Z6.1 hy).1
 unfold ins
 rw[aaB]
 constructor
 ·rintro⟨j,hj,hl⟩
  rw[List.mem_filter,aaF] at hj
  have hjk:=(QX hs hK hj.1).1 hl
  subst hjk
  have:=abT hj.2
  rcases aaw.1 this with h | h
  ·exact .inl h.symm
  ·exact .inr h
 ·intro h
  refine⟨k, ?_,(QX hs hK hkl).2 rfl⟩
  rw[List.mem_filter,aaF]
  refine⟨hkl,abF ?_⟩
  rcases h with h | h
  ·rw[h];exact aay
  ·exact aax _ h
theorem Uk (a:an) (hf:rF a) (t to:List UInt8):∃ x e,uR a t to=some (x,e,())∧Bw a t to=some (x,e,())∧dB x:=by
 have vQ:maxLen=9223372036854775807:=rfl
 unfold uR Bw
 rw[uS a hf,abo,gA a hf,abo]
 dsimp only
 by_cases h:bV a=0
 rotate_left
 ·rw[abO h,show (bV a != 0)=true by simpa using h,abB,abB]
  exact⟨_,_,rfl,rfl,dB.zero⟩
 rw[abN (by simpa using h),show (bV a != 0)=false by simpa using h,abA]
 have hok:=gX h
 have hl:=hok.len
 rw[fe a.2.2.2 t (by omega),abo]
 dsimp only
 cases hT:cn (fun x:aa=>x.1) t a.2.2.2 with
 | none=>exact⟨_,_,rfl,rfl,dB.zero⟩
 | some i=>
 rw[show (Option.isSome (some i))=true from rfl,abO rfl,show ((0:Int) != 0)=false from rfl,abA]
 obtain⟨i',k1,k2⟩:=dK a t (by omega) hok.asc
 rw[k1,abo,k2 i hT]
 dsimp only
 obtain⟨p,hp,hpt⟩:=iR hT
 have hi:=(Z6.1 hp).1
 have ht0:t≠[]:=fun e=>VE h p (aaC hp) (hpt.trans e)
 rw[show decide (ixI (some i)<0)=false from abD (by show ¬ (i:Int)<0;omega),abA,show ixI (some i)=(i:Int) from rfl]
 have fin:∃ x e,(Option.bind (dW a.2.2.2) fun r6=>
  chk (decide (0≤(i:Int))&&decide ((i:Int)<(r6.1.length:Int))) <|
  Option.bind (r6.1[(i:Int).toNat]?) fun y7=>
  Option.bind (cZ (a.1,a.2.1,a.2.2.1,List.set r6.1 (i:Int).toNat (y7.1,to,y7.2.2))) fun r8=>
  bif r8.1 != 0 then
   some (([],[],0,[]),r8.1,())
  else
   some ((a.1,a.2.1,a.2.2.1,List.set r6.1 (i:Int).toNat (y7.1,to,y7.2.2)),0,()))=some (x,e,())∧
   (chk (decide (a.2.2.2.length*72≤140737488355328)&&decide (a.2.2.2.length≤maxLen)) <|
     chk (decide (0≤(i:Int))&&decide ((i:Int)<(a.2.2.2.length:Int))) <|
     Option.bind (a.2.2.2[(i:Int).toNat]?) fun y9=>
     Option.bind (de (a.1,a.2.1,a.2.2.1,List.set a.2.2.2 (i:Int).toNat (y9.1,to,y9.2.2))) fun r10=>
     bif r10.1 != 0 then
      some (([],[],0,[]),r10.1,())
     else
      some ((a.1,a.2.1,a.2.2.1,List.set a.2.2.2 (i:Int).toNat (y9.1,to,y9.2.2)),0,()))=some (x,e,())∧dB x:=by
  rw[uA hl (uj h),abo]
  dsimp only
  have hck:(decide (0≤(i:Int))&&decide ((i:Int)<(a.2.2.2.length:Int)))=true:=by rw[Zd];exact⟨abF (by omega),abF (by omega)⟩
  rw[aQ hck,aQ (by rw[Zd];exact⟨abF (by omega),abF (by omega)⟩),aQ hck,ZD,hp,abo,abo,gz _ (hf.set hp (to,p.2.2)),gA _ (hf.set hp (to,p.2.2)),abo]
  dsimp only
  by_cases h2:bV (a.1,a.2.1,a.2.2.1,a.2.2.2.set i (p.1,to,p.2.2))=0
  ·rw[h2,show ((0:Int) != 0)=false from rfl,abA]
   exact⟨_,_,rfl,rfl,dB.of h2⟩
  ·rw[show (bV (a.1,a.2.1,a.2.2.1,a.2.2.2.set i (p.1,to,p.2.2)) != 0)=true by simpa using h2,abB]
   exact⟨_,_,rfl,rfl,dB.zero⟩
 by_cases h0:to=[]
 ·rw[show (to==[])=true by simpa using h0,Zo,abA,abA,abA,aM,abo]
  dsimp only
  rw[abA,abo]
  dsimp only
  rw[abA]
  exact fin
 ·rw[show (to==[])=false by simpa using h0,Zn,abB,abB,abB,fe a.2.2.2 to (by omega),abo,abo]
  dsimp only
  obtain⟨k',m1,m2⟩:=dK a to (by omega) hok.asc
  rw[m1,abo]
  dsimp only
  cases hK:cn (fun x:aa=>x.1) to a.2.2.2 with
  | none=>exact⟨_,_,rfl,rfl,dB.zero⟩
  | some k=>
   rw[m2 k hK]
   obtain⟨pk,hpk,_⟩:=iR hK
   have hkl:=(Z6.1 hpk).1
   have hil:=Tc a.2.2.2 i a.2.2.2.length
   rw[show (Option.isSome (some k))=true from rfl,Zo,abA,show decide (ixI (some k)<0)=false from abD (by show ¬ (k:Int)<0;omega),abA,O4 a.2.2.2 hl hok.n1 hok.nl t ht0 i hT,abo]
   dsimp only
   rw[O5 a.2.2.2 _ (fun x hx=>by unfold ins at hx;exact aaF.1 (List.mem_filter.1 hx).1) (by omega),abo]
   dsimp only
   rw[zn _ _ (by rw[aal];omega),abo,abo]
   dsimp only
   have hmi:=XI (i:=i) hok.asc hK
   have hany:((ins a.2.2.2 i a.2.2.2.length).map (lab a.2.2.2)).any (fun o=>o==to)=decide (k=i∨i∈eD a.2.2.2 k):=by
    rw[Zg,ZI,decide_eq_true_iff, ← hmi]
    constructor
    ·rintro⟨o,ho,e⟩
     rw[← show o=to by simpa using e];exact ho
    ·intro ho
     exact⟨to,ho,by simp⟩
   rw[hany]
   by_cases hki:k=i
   ·rw[hki,show (((i:Nat):Int)==(i:Int))=true by simp,abB,abF (.inl rfl),abB]
    exact⟨_,_,rfl,rfl,dB.zero⟩
   ·rw[show (((k:Nat):Int)==(i:Int))=false by rw[abx];omega,abA,GA hok hkl hT,abo]
    dsimp only
    by_cases hw:i∈eD a.2.2.2 k
    ·rw[abF hw,abB,abF (.inr hw),abB]
     exact⟨_,_,rfl,rfl,dB.zero⟩
    ·rw[abD hw,abA,aM,show decide (k=i∨i∈eD a.2.2.2 k)=false from abD fun h=>h.elim hki hw,abA]
     exact fin
end Go.Md
set_option linter.all false
set_option maxRecDepth 20000
namespace Go.Md
open Go.Dn
theorem PY {l:List aa} (hl:l.length≤4000):bN l=some (l,()):=by
 have vQ:maxLen=9223372036854775807:=rfl
 unfold bN
 have e:(chk (decide ((0+(List.length l))*72≤140737488355328)&&decide (0+(List.length l)≤maxLen)) (some (l,())))=some (l,()):=aQ (by rw[Zd];exact⟨abF (by omega),abF (by omega)⟩) _
 cases l with
 | nil=>
  rw[aah,abB,e]
  exact xo _
 | cons a r=>rw[aag,abA,e]
theorem VY (l:List aa) (hl:l.length≤4000) (q:aa):zi l q=some (D9 l q,()):=by
 unfold zi
 have loop:∀ (r:List aa) (i f:Nat),l.drop i=r→i≤l.length→r.length<f→
  iter (X:=sM) (β:=sL) f (l,(i:Int),q.1,q.2.1,q.2.2.1.1,q.2.2.1.2,q.2.2.2,()) oS=some (Sum.inr (l,((i+lB Op.bytesLess q.1 (r.map (·.1)):Nat):Int),q.1,q.2.1,q.2.2.1.1,q.2.2.1.2,q.2.2.2,())):=by
  intro r
  induction r with
  | nil=>
   intro i f hdr hi hf
   have:i=l.length:=by
    have:=congrArg List.length hdr
    simp at this;omega
   obtain⟨f,rfl⟩:∃ m,f=m+1:=⟨f - 1,by omega⟩
   rw[br]
   unfold oS
   dsimp only
   rw[aF (by omega),abo]
   rfl
  | cons x r ih=>
   intro i f hdr hi hf
   have hx:l[i]? =some x:=by
    have:=congrArg (·[0]?) hdr
    simpa [Z3] using this
   have hr':l.drop (i+1)=r:=by
    have:=congrArg List.tail hdr
    simpa [aaS] using this
   have hlt:=(Z6.1 hx).1
   obtain⟨f,rfl⟩:∃ m,f=m+1:=⟨f - 1,by simp at hf;omega⟩
   simp only[aaj] at hf
   have hp:lB Op.bytesLess q.1 ((x::r).map (·.1))=if Op.bytesLess x.1 q.1=true then lB Op.bytesLess q.1 (r.map (·.1))+1 else 0:=rfl
   rw[br,hp]
   generalize hag:(fun y=>iter f y oS)=again
   unfold oS
   dsimp only
   rw[aB (by omega),bq,hx,abo,abo]
   dsimp only
   cases hb:Op.bytesLess x.1 q.1 with
   | true=>
    rw[abB,abO rfl,aC (n:=(i:Int)+1) (by omega) (by omega), ← hag,show (i:Int)+1=((i+1:Nat):Int) by omega]
    refine (ih (i+1) f hr' (by omega) (by omega)).trans ?_
    rw[show i+1+lB Op.bytesLess q.1 (r.map (·.1))=i+(lB Op.bytesLess q.1 (r.map (·.1))+1) by omega]
   | false=>rw[abA,abN (by simp)];rfl
 have h0:=loop l 0 (List.length l+(Int.natAbs (0:Int)+(q.1.length+(q.2.1.length+(q.2.2.1.1.natAbs+(q.2.2.1.2.natAbs+(q.2.2.2.length+2))))))) rfl (abn _) (by omega)
 rw[show ((0:Nat):Int)=0 from rfl] at h0
 rw[h0,aM]
 dsimp only
 have hle:=MT (lt:=Op.bytesLess) q.1 (l.map (·.1))
 rw[aal] at hle
 rw[PY hl,abo]
 dsimp only
 have hins:kJ l ((0+lB Op.bytesLess q.1 (l.map (·.1)):Nat):Int) [(q.1,q.2.1,(q.2.2.1.1,q.2.2.1.2),q.2.2.2)]=some (D9 l q,()):=by
  show sB 72 _ _ _=_
  unfold sB
  rw[abm,show (decide (0≤((lB Op.bytesLess q.1 (l.map (·.1)):Nat):Int))&&(decide (((lB Op.bytesLess q.1 (l.map (·.1)):Nat):Int)≤(l.length:Int))&&(decide (0<[(q.1,q.2.1,(q.2.2.1.1,q.2.2.1.2),q.2.2.2)].length)&&(decide ((l.length+[(q.1,q.2.1,(q.2.2.1.1,q.2.2.1.2),q.2.2.2)].length)*72≤140737488355328)&&decide (l.length+[(q.1,q.2.1,(q.2.2.1.1,q.2.2.1.2),q.2.2.2)].length≤4611686018427387904)))))=true by
   simp only[Zd,abG,aap]
   omega]
  rw[abB,ZD]
  rfl
 rw[hins,abo]
theorem WU (l:List aa) (p:aa):(D9 l p).length=l.length+1:=by
 have:=(GB l p).length_eq
 simpa using this
theorem Hf (a b:aa):(!decide (Lib.compareBytes b.1 a.1<0))=true↔(Op.bytesLess b.1 a.1=false):=by
 rw[Zm,abE,jx,Zl]
theorem UK {k:List aa} (hd:k.Pairwise fun a b=>a.1≠b.1) (hl:k.length≤4000):∃ x,jC k ()=some (x,())∧x.Perm k∧Asc (·.1) x:=by
 unfold jC GS
 have hu:∀ x∈k,∀ y∈k,x.1=y.1→x=y:=by
  intro x hx y hy e
  obtain⟨i,hi⟩:=aaA.1 hx
  obtain⟨j,hj⟩:=aaA.1 hy
  obtain⟨i1,i2⟩:=Z6.1 hi
  obtain⟨j1,j2⟩:=Z6.1 hj
  rcases abe i j with h | h | h
  ·have:=aaM.1 hd i j i1 j1 h
   rw[i2,j2] at this;exact absurd e this
  ·subst h;rw[hi] at hj;exact Option.some.inj hj
  ·have:=aaM.1 hd j i j1 i1 h
   rw[i2,j2] at this;exact absurd e.symm this
 have g2:∀ x,x∈k→∀ y,y∈k→¬ Lib.compareBytes x.1 y.1<0→¬ Lib.compareBytes y.1 x.1<0→x=y:=fun x hx y hy h1 h2=>by
  rw[jx] at h1 h2
  rcases gY x.1 y.1 with h | h | h
  ·exact absurd h h1
  ·exact hu x hx y hy h
  ·exact absurd h h2
 rw[abO ⟨fun _ _=>rfl,g2,by omega⟩]
 refine⟨_,rfl,aaH _ _, ?_⟩
 have hp:=aaH k (fun x y=> !decide (Lib.compareBytes y.1 x.1<0))
 have hs:(k.mergeSort fun x y=> !decide (Lib.compareBytes y.1 x.1<0)).Pairwise fun a b=>(!decide (Lib.compareBytes b.1 a.1<0))=true:=by
  refine List.pairwise_mergeSort ?_ ?_ k
  ·intro a b c h1 h2
   rw[Hf] at h1 h2 ⊢
   cases hca:Op.bytesLess c.1 a.1 with
   | false=>rfl
   | true=>
    exfalso
    rcases gY b.1 c.1 with h | h | h
    ·have:=cQ h hca;rw[this] at h1;cases h1
    ·rw[h,hca] at h1;cases h1
    ·rw[h] at h2;cases h2
  ·intro a b
   rw[Zq,Hf,Hf]
   rcases gY a.1 b.1 with h | h | h
   ·exact .inl (Ii h)
   ·rw[h];exact .inl (dD _)
   ·exact .inr (Ii h)
 have hd':(k.mergeSort fun x y=> !decide (Lib.compareBytes y.1 x.1<0)).Pairwise fun a b=>a.1≠b.1:=(hp.pairwise_iff (fun h e=>h e.symm)).2 hd
 intro i j a b hij ha hb
 obtain⟨i1,i2⟩:=Z6.1 ha
 obtain⟨j1,j2⟩:=Z6.1 hb
 have h1:=aaM.1 hs i j i1 j1 hij
 have h2:=aaM.1 hd' i j i1 j1 hij
 rw[i2,j2] at h1 h2
 rw[Hf] at h1
 rcases gY a.1 b.1 with h | h | h
 ·exact h
 ·exact absurd h h2
 ·rw[h] at h1;cases h1
theorem PK {l:List aa} (h:Asc (·.1) l):l.Pairwise fun a b=>a.1≠b.1:=by
 refine aaM.2 ?_
 intro i j hi hj hij e
 have:Op.bytesLess (l[i]).1 (l[j]).1=true:=h i j l[i] l[j] hij (Z4 hi) (Z4 hj)
 rw[e,dD] at this;cases this
def MU (out r:List aa):List aa:=r.foldl D9 out
theorem GC:∀ (r out:List aa),(MU out r).Perm (out++r)
 | [],out=>by unfold MU;simp
 | q::r,out=>by
  have h1:=GC r (D9 out q)
  have h2:=(GB out q).append_right r
  rw[ZJ] at h2
  exact h1.trans h2
theorem Ro:∀ (r out:List aa),Asc (·.1) out→(r.Pairwise fun a b=>a.1≠b.1)→(∀ s∈r,∀ q∈out,q.1≠s.1)→Asc (·.1) (MU out r)
 | [],out,h,_,_=>h
 | s::r,out,h,hnd,hne=>by
  rw[aaL] at hnd
  refine Ro r _ (WT h fun q hq=>hne s aay q hq) hnd.2 fun t ht q hq=> ?_
  rcases aau.1 ((GB out s).mem_iff.1 hq) with hq | hq
  ·exact hne t (aax _ ht) q hq
  ·rw[aaG.1 hq]
   exact hnd.1 t ht
theorem WV (r out:List aa):(MU out r).length=out.length+r.length:=by
 rw[(GC r out).length_eq,aai]
theorem U7 (la lb:List aa) (h:la.length+lb.length≤1000):gR [la,lb]=some (la++lb,()):=by
 have vQ:maxLen=9223372036854775807:=rfl
 unfold gR
 have l1:∀ f,2<f→iter (X:=fh) (β:=ff) f ([la,lb],0,[la,lb],((2:Nat):Int),0,()) iW=some (Sum.inr ([la,lb],((la.length+lb.length:Nat):Int),())):=by
  intro f hf
  obtain⟨f,rfl⟩:∃ m,f=m+3:=⟨f - 3,by omega⟩
  rw[br]
  unfold iW
  dsimp only
  rw[aB (by omega),show idx [la,lb] 0=some la from rfl,abo,aC (n:=0+((la.length:Nat):Int)) (by omega) (by omega),aF (by omega),aC (n:=(0:Int)+1) (by omega) (by omega),br]
  dsimp only
  rw[aB (by omega),show idx [la,lb] (0+1)=some lb from rfl,abo,aC (n:=0+((la.length:Nat):Int)+((lb.length:Nat):Int)) (by omega) (by omega),aF (by omega),aC (n:=(0:Int)+1+1) (by omega) (by omega),br]
  dsimp only
  rw[aF (by omega),show 0+((la.length:Nat):Int)+((lb.length:Nat):Int)=((la.length+lb.length:Nat):Int) by omega]
 have l2:∀ f,2<f→iter (X:=eW) (β:=eV) f ([],[la,lb],((2:Nat):Int),0,()) iG=some (Sum.inr (la++lb,())):=by
  intro f hf
  obtain⟨f,rfl⟩:∃ m,f=m+3:=⟨f - 3,by omega⟩
  rw[br]
  unfold iG
  dsimp only
  rw[aB (by omega),show idx [la,lb] 0=some la from rfl,abo,aQ (by rw[Zd];exact⟨abF (by simp;omega),abF (by simp;omega)⟩),aC (n:=(0:Int)+1) (by omega) (by omega),br]
  dsimp only
  rw[aB (by omega),show idx [la,lb] (0+1)=some lb from rfl,abo,aQ (by rw[Zd];exact⟨abF (by simp;omega),abF (by simp;omega)⟩),aC (n:=(0:Int)+1+1) (by omega) (by omega),br]
  dsimp only
  rw[aF (by omega),aaI]
 rw[show ((([la,lb]:List (List aa)).length:Nat):Int)=((2:Nat):Int) from rfl,l1 _ (by simp only[aaj,aam];omega),aM]
 dsimp only
 have hg:mL [] ((la.length+lb.length:Nat):Int)=some ([],()):=by
  show Hp 72 [] _=_
  unfold Hp
  rw[show (decide (0≤((la.length+lb.length:Nat):Int))&&decide (((([]:List aa)).length+(((la.length+lb.length:Nat):Int)).toNat)*72≤140737488355328)&&decide ((([]:List aa)).length+(((la.length+lb.length:Nat):Int)).toNat≤4611686018427387904))=true by
   simp only[Zd,abG,aam,ZD]
   omega]
  rfl
 rw[hg,abo]
 dsimp only
 rw[show ((([la,lb]:List (List aa)).length:Nat):Int)=((2:Nat):Int) from rfl,l2 _ (by simp only[aaj,aam];omega),aM]
theorem XB (a b:an) (hfa:rF a) (hfb:rF b) (f:Nat) (hf:2<f):
 iter (X:=oa) (β:=n9) f (((2:Nat):Int),0,a.1,a.2.1,a.2.2.1,a.2.2.2,b.1,b.2.1,b.2.2.1,b.2.2.2,[],[],0,[],[a,b],()) tG=
  some (if bV a≠0 then Sum.inl (([],[],0,[]),bV a,()) else if bV b≠0 then Sum.inl (([],[],0,[]),bV b,()) else Sum.inr (a.1,a.2.1,a.2.2.1,a.2.2.2,b.1,b.2.1,b.2.2.1,b.2.2.2,[],[],0,[],())):=by
 obtain⟨f,rfl⟩:∃ m,f=m+3:=⟨f - 3,by omega⟩
 rw[br]
 unfold tG
 dsimp only
 rw[aB (by omega),aQ (by rfl),show ([a,b]:List an)[(0:Int).toNat]? =some a from rfl,abo,gz a hfa,abo]
 dsimp only
 by_cases ha:bV a=0
 rotate_left
 ·rw[show (bV a != 0)=true by simpa using ha,abB,abO ha]
 rw[show (bV a != 0)=false by simpa using ha,abA,abN (by simpa using ha),aC (n:=(0:Int)+1) (by omega) (by omega),br]
 dsimp only
 rw[aB (by omega),aQ (by rfl),show ([a,b]:List an)[(0+1:Int).toNat]? =some b from rfl,abo,gz b hfb,abo]
 dsimp only
 by_cases hb:bV b=0
 rotate_left
 ·rw[show (bV b != 0)=true by simpa using hb,abB,abO hb]
 rw[show (bV b != 0)=false by simpa using hb,abA,abN (by simpa using hb),aC (n:=(0:Int)+1+1) (by omega) (by omega),br]
 dsimp only
 rw[aF (by omega)]
theorem WB (a b:an) (ha:bV a=0) (hb:bV b=0) (f:Nat) (hf:b.2.2.2.length<f):
 iter (X:=jJ) (β:=mS) f (b.2.2.2,(b.2.2.2.length:Int),0,a.1,a.2.1,a.2.2.1,a.2.2.2,b.1,b.2.1,b.2.2.1,b.2.2.2,[],[],0,[],()) mR=
  some (if b.2.2.2.any (fun q=>(cn (fun x:aa=>x.1) q.1 a.2.2.2).isSome)=true then Sum.inl (([],[],0,[]),7,()) else Sum.inr (a.1,a.2.1,a.2.2.1,a.2.2.2,b.1,b.2.1,b.2.2.1,b.2.2.2,[],[],0,[],())):=by
 have hl:=(gX hb).len
 have hla:=(gX ha).len
 refine bI (Inv:=fun i X=>X=((b.2.2.2,(b.2.2.2.length:Int),(i:Int),a.1,a.2.1,a.2.2.1,a.2.2.2,b.1,b.2.1,b.2.2.1,b.2.2.2,[],[],0,[],()):jJ)∧(b.2.2.2.take i).any (fun q=>(cn (fun x:aa=>x.1) q.1 a.2.2.2).isSome)=false) b.2.2.2.length (fun r=>r=some (if b.2.2.2.any (fun q=>(cn (fun x:aa=>x.1) q.1 a.2.2.2).isSome)=true then Sum.inl (([],[],0,[]),7,()) else Sum.inr (a.1,a.2.1,a.2.2.1,a.2.2.2,b.1,b.2.1,b.2.2.1,b.2.2.2,[],[],0,[],()))) ?_ ?_ f 0 _ ⟨rfl,by simp⟩ (by omega) (by omega)
 ·rintro i X again hi ⟨rfl,hI⟩ hag
  unfold mR
  dsimp only
  have hy:b.2.2.2[i]? =some b.2.2.2[i]:=Z4 hi
  obtain⟨k,m1,_⟩:=dK a b.2.2.2[i].1 (by omega) (gX ha).asc
  rw[aB (by omega),bq,hy,abo,show b6 (a.1,a.2.1,a.2.2.1,a.2.2.2) b.2.2.2[i].1=_ from m1,abo]
  dsimp only
  cases hb':(cn (fun x:aa=>x.1) b.2.2.2[i].1 a.2.2.2).isSome with
  | true=>rw[abB,abO (ZI.2 ⟨b.2.2.2[i],aaf _,hb'⟩)]
  | false=>
   rw[abA,aC (by omega) (by omega)]
   refine hag _ ⟨rfl, ?_⟩
   rw[aaT,hy,List.any_append,hI]
   simp only[Option.toList_some,ZG,List.any_nil,hb',Bool.or_false]
 ·rintro X again ⟨rfl,hI⟩
  unfold mR
  dsimp only
  rw[aF (by omega)]
  rw[List.take_length] at hI
  rw[abN (by rw[hI];simp)]
theorem Vx (a b:an) (ha:bV a=0) (hb:bV b=0):
 ∀ (r:List aa) (i f:Nat) (out:List aa),b.2.2.2.drop i=r→i≤b.2.2.2.length→r.length<f→out.length≤500+i→
 iter (X:=rm) (β:=rj) f (b.2.2.2,(b.2.2.2.length:Int),(i:Int),a.1,a.2.1,a.2.2.1,a.2.2.2,[],[],0,[],a.1,a.2.1,a.2.2.1,out,()) nv=
  some (if r.any (fun q=>(cn (fun x:aa=>x.1) q.1 a.2.2.2).isSome)=true then Sum.inl (([],[],0,[]),7,()) else Sum.inr ([],[],0,[],a.1,a.2.1,a.2.2.1,MU out r,())):=by
 have hl:=(gX hb).len
 have hla:=(gX ha).len
 intro r
 induction r with
 | nil=>
  intro i f out hdr hi hf ho
  have:i=b.2.2.2.length:=by
   have:=congrArg List.length hdr
   simp at this;omega
  obtain⟨f,rfl⟩:∃ m,f=m+1:=⟨f - 1,by omega⟩
  rw[br]
  unfold nv
  dsimp only
  rw[aF (by omega)]
  rfl
 | cons x r ih=>
  intro i f out hdr hi hf ho
  have hx:b.2.2.2[i]? =some x:=by
   have:=congrArg (·[0]?) hdr
   simpa [Z3] using this
  have hr':b.2.2.2.drop (i+1)=r:=by
   have:=congrArg List.tail hdr
   simpa [aaS] using this
  have hlt:=(Z6.1 hx).1
  obtain⟨f,rfl⟩:∃ m,f=m+1:=⟨f - 1,by simp at hf;omega⟩
  simp only[aaj] at hf
  rw[br]
  generalize hag:(fun y=>iter f y nv)=again
  unfold nv
  dsimp only
  rw[aB (by omega),bq,hx,abo,fe a.2.2.2 x.1 (by omega),abo,ZG]
  dsimp only
  cases hT:cn (fun x:aa=>x.1) x.1 a.2.2.2 with
  | some k=>
   rw[show decide (ixI (some k)≥0)=true from abF (by show (k:Int)≥0;omega),abB,show (Option.isSome (some k))=true from rfl,Bool.true_or,abO rfl]
  | none=>
   rw[show decide (ixI none≥0)=false from rfl,abA,VY out (by omega) x,abo]
   dsimp only
   rw[aC (n:=(i:Int)+1) (by omega) (by omega), ← hag,show (i:Int)+1=((i+1:Nat):Int) by omega,show (Option.isSome (none:Option Nat))=false from rfl,Zj]
   exact ih (i+1) f _ hr' (by omega) (by omega) (by rw[WU];omega)
theorem Sl (a b:an) (hfa:rF a) (hfb:rF b):∃ x e,sE a b=some (x,e,())∧ze a b=some (x,e,())∧dB x:=by
 unfold sE ze
 rw[gA a hfa,abo,gA b hfb,abo]
 dsimp only
 rw[show ((([a,b]:List an).length:Nat):Int)=((2:Nat):Int) from rfl,XB a b hfa hfb _ (by simp only[aaj,aam];omega)]
 by_cases ha:bV a=0
 rotate_left
 ·rw[abO ha,gu,show (bV a != 0)=true by simpa using ha,abB]
  exact⟨_,_,rfl,rfl,dB.zero⟩
 rw[abN (by simpa using ha),show (bV a != 0)=false by simpa using ha,abA]
 by_cases hb:bV b=0
 rotate_left
 ·rw[abO hb,gu,show (bV b != 0)=true by simpa using hb,abB]
  exact⟨_,_,rfl,rfl,dB.zero⟩
 rw[abN (by simpa using hb),show (bV b != 0)=false by simpa using hb,abA,aM]
 dsimp only
 by_cases ho:(a.2.1==b.2.1)=true
 rotate_left
 ·rw[show (a.2.1==b.2.1)=false by simpa using ho,Zn,abB,abB]
  exact⟨_,_,rfl,rfl,dB.zero⟩
 rw[ho,Zo,abA,abA]
 have hoka:=gX ha
 have hokb:=gX hb
 have hla:=hoka.len
 have hlb:=hokb.len
 rw[WB a b ha hb _ (by omega)]
 have hR:=Vx a b ha hb b.2.2.2 0 (b.2.2.2.length+(Int.natAbs ((b.2.2.2.length:Int))+(Int.natAbs (0:Int)+(a.1.length+(a.2.1.length+(a.2.2.1.natAbs+(a.2.2.2.length+(List.length ([]:List UInt8)+(List.length ([]:List UInt8)+(Int.natAbs (0:Int)+(List.length ([]:List aa)+(a.1.length+(a.2.1.length+(a.2.2.1.natAbs+(a.2.2.2.length+2))))))))))))))) a.2.2.2 rfl (abn _) (by omega) (by omega)
 rw[show ((0:Nat):Int)=0 from rfl] at hR
 rw[hR]
 by_cases h7:b.2.2.2.any (fun q=>(cn (fun x:aa=>x.1) q.1 a.2.2.2).isSome)=true
 ·rw[abO h7,abO h7,gu,gu]
  exact⟨_,_,rfl,rfl,dB.zero⟩
 rw[abN h7,abN h7,aM,aM]
 dsimp only
 have hne:∀ s∈b.2.2.2,∀ q∈a.2.2.2,q.1≠s.1:=by
  intro s hs q hq e
  have h8:=ZH.1 (Bool.eq_false_iff.2 h7) s hs
  cases hT:cn (fun x:aa=>x.1) s.1 a.2.2.2 with
  | some k=>rw[hT] at h8;exact h8 rfl
  | none=>exact NB hT q hq e
 rw[aC (n:=((a.2.2.2.length:Nat):Int)+((b.2.2.2.length:Nat):Int)) (by omega) (by omega),WV]
 by_cases hbig:500<a.2.2.2.length+b.2.2.2.length
 ·rw[aB (by omega),aB (by omega)]
  exact⟨_,_,rfl,rfl,dB.zero⟩
 have hpa:∀ q∈a.2.2.2++b.2.2.2,Wi q:=fun q hq=>by
  rcases aau.1 hq with h | h
  ·exact uj ha q h
  ·exact uj hb q h
 have hd:(a.2.2.2++b.2.2.2).Pairwise fun x y=>x.1≠y.1:=aaK.2 ⟨PK hoka.asc,PK hokb.asc,fun x hx y hy=>hne y hy x hx⟩
 obtain⟨x,u1,u2,u3⟩:=UK hd (by rw[aai];omega)
 rw[aF (by omega),aF (by omega),U7 _ _ (by omega),abo]
 dsimp only
 rw[uA (by rw[aai];omega) hpa,abo]
 dsimp only
 rw[u1,abo]
 dsimp only
 have hx:MU a.2.2.2 b.2.2.2=x:=Wk (Ro _ _ hoka.asc (PK hokb.asc) hne) u3 ((GC _ _).trans u2.symm)
 rw[hx]
 refine⟨_,_,rfl,rfl, ?_,fun q hq=> ?_⟩
 ·show x.length≤1000
  rw[u2.length_eq,aai];omega
 ·have:=(hpa q (u2.mem_iff.1 hq)).n
  omega
end Go.Md
set_option linter.all false
set_option maxRecDepth 20000
namespace Go.Md
open Go.Dn
theorem uo {α β:Type} (e:α→β):∀ (l:List α) (n:Nat) (g:Nat→α→Int) (g':Nat→β→Int),(∀ i y,l[i]? =some y→g' (n+i) (e y)=g (n+i) y)→bS g' n (l.map e)=bS g n l
 | [],_,_,_,_=>rfl
 | y::r,n,g,g',h=>by
  have h0:=h 0 y rfl
  rw[aa1] at h0
  rw[aat]
  unfold bS
  rw[h0,uo e r (n+1) g g' fun i z hz=>by
   have:=h (i+1) z (by simpa using hz)
   rw[show n+1+i=n+(i+1) by omega];exact this]
def bad (c:ah):Prop:=qOk c.2.2.2 false=false
def eC (c:ah):ah:=if qOk c.2.2.2 false=true then c else (c.1,c.2.1,c.2.2.1,(0,0))
def eP (p:aa):aa:=(p.1,p.2.1,p.2.2.1,p.2.2.2.map eC)
theorem Ws (c:ah):(eC c).1=c.1∧(eC c).2.1=c.2.1∧(eC c).2.2.1=c.2.2.1:=by
 unfold eC
 split<;>exact⟨rfl,rfl,rfl⟩
theorem YL (c:ah):qOk (eC c).2.2.2 false=qOk c.2.2.2 false:=by
 unfold eC
 by_cases h:qOk c.2.2.2 false=true
 ·rw[abO h]
 ·rw[abN h]
  dsimp only
  have h1:qOk ((0,0):ai) false=false:=by unfold qOk;simp
  rw[h1]
  exact (Bool.eq_false_iff.2 h).symm
theorem X8 (a b:ah):bZ (eC a) (eC b)=bZ a b:=by
 obtain⟨a1,a2,a3⟩:=Ws a
 obtain⟨b1,b2,b3⟩:=Ws b
 unfold bZ
 rw[a1,a2,a3,b1,b2,b3]
theorem U8 (l:List ah):eY (l.map eC)=eY l:=by
 unfold eY
 rw[aal]
 split
 ·rfl
 ·refine uo eC l 0 _ _ fun i y hy=> ?_
  rw[abm]
  obtain⟨a1,a2,a3⟩:=Ws y
  have hp:uT (l.map eC) i (eC y)=uT l i y:=by
   unfold uT
   cases i with
   | zero=>rfl
   | succ i=>
    dsimp only
    rw[Z7]
    cases l[i]? with
    | none=>rfl
    | some z=>
     dsimp only[Option.map_some]
     rw[X8]
  unfold wR
  rw[a1,a2,a3,hp,YL]
theorem Te (t:List UInt8) (l:List aa):cn (fun x:aa=>x.1) t (l.map eP)=cn (fun x:aa=>x.1) t l:=by
 rw[QO,QO,List.map_map];rfl
theorem VX (l:List aa):par (l.map eP)=par l:=by
 funext k
 unfold par
 rw[Z7]
 cases l[k]? with
 | none=>rfl
 | some p=>
  dsimp only[Option.map_some]
  rw[Te];rfl
theorem SZ (n o:List UInt8) (d:Int) (l:List aa):bV (n,o,d,l.map eP)=bV (n,o,d,l):=by
 unfold bV
 dsimp only
 have h1:bS (gN (l.map eP)) 0 (l.map eP)=bS (gN l) 0 l:=by
  refine uo eP l 0 _ _ fun i y hy=> ?_
  rw[abm]
  have hp:sG (l.map eP) i (eP y)=sG l i y:=by
   unfold sG
   cases i with
   | zero=>rfl
   | succ i=>
    dsimp only
    rw[Z7]
    cases l[i]? with
    | none=>rfl
    | some z=>rfl
  unfold gN
  rw[hp,show (eP y).1=y.1 from rfl,show (eP y).2.2.1=y.2.2.1 from rfl,show (eP y).2.2.2=y.2.2.2.map eC from rfl,U8]
 have h2:yY (l.map eP)=yY l:=by
  unfold yY
  have a1:CW (l.map eP)=CW l:=by
   unfold CW
   refine uo eP l 0 _ _ fun i y hy=> ?_
   unfold n1
   rw[Te];rfl
  have a2:CX (l.map eP)=CX l:=by
   unfold CX
   refine uo eP l 0 _ _ fun i y hy=> ?_
   unfold n2
   rw[VX]
  have a3:KT (l.map eP)=KT l:=by
   unfold KT
   refine uo eP l 0 _ _ fun i y hy=> ?_
   unfold n3 eD
   rw[VX,aal]
  rw[a1,a2,a3]
 rw[h1,h2,aal]
theorem FI {a:an} (h:bV a=0):∀ p∈a.2.2.2,eY p.2.2.2=0:=by
 unfold bV at h
 split at h
 ·omega
 split at h
 ·omega
 split at h
 ·omega
 split at h
 ·omega
 split at h
 ·omega
 have h3:bS (gN a.2.2.2) 0 a.2.2.2=0:=by omega
 intro p hp
 obtain⟨i,hi⟩:=aaA.1 hp
 have:=dO h3 i p hi
 unfold gN at this
 split at this
 ·omega
 split at this
 ·omega
 split at this
 ·omega
 exact this
theorem Yj {l:List ah} (h:eY l=0):∀ c∈l,qOk c.2.2.2 false=true:=by
 unfold eY at h
 split at h
 ·omega
 intro c hc
 obtain⟨j,hj⟩:=aaA.1 hc
 have:=dO h j c hj
 unfold wR at this
 split at this
 ·omega
 split at this
 ·omega
 split at this
 ·omega
 split at this
 ·omega
 split at this
 ·rename_i hq;exact hq
 ·omega
theorem Xc {a:an} (h:bV a=0):a.2.2.2.map eP=a.2.2.2:=by
 conv=>rhs;rw[← List.map_id a.2.2.2]
 apply aas
 intro p hp
 have hq:=Yj (FI h p hp)
 unfold eP
 have:p.2.2.2.map eC=p.2.2.2:=by
  conv=>rhs;rw[← List.map_id p.2.2.2]
  apply aas
  intro c hc
  unfold eC
  rw[abO (hq c hc)];rfl
 rw[this];rfl
def cLt (a b:ah):Prop:=Op.bytesLess a.1 b.1=true∨(a.1=b.1∧(Op.bytesLess a.2.1 b.2.1=true∨(a.2.1=b.2.1∧Op.bytesLess a.2.2.1 b.2.2.1=true)))
theorem IP {a b:ah}:bZ a b<0↔cLt a b:=by
 unfold bZ cLt
 have e1:= @jx a.1 b.1
 have e2:= @jx a.2.1 b.2.1
 have e3:= @jx a.2.2.1 b.2.2.1
 have z1:= @gp a.1 b.1
 have z2:= @gp a.2.1 b.2.1
 rw[← e1, ← e2, ← e3, ← z1, ← z2]
 unfold bS
 by_cases h1:Lib.compareBytes a.1 b.1=0
 ·rw[abO h1]
  unfold bS
  by_cases h2:Lib.compareBytes a.2.1 b.2.1=0
  ·rw[abO h2]
   unfold bS
   by_cases h3:Lib.compareBytes a.2.2.1 b.2.2.1=0
   ·rw[abO h3]
    unfold bS
    omega
   ·rw[abN h3];omega
  ·rw[abN h2];omega
 ·rw[abN h1];omega
theorem uz {a b c:ah} (h1:bZ a b<0) (h2:bZ b c<0):bZ a c<0:=by
 rw[IP] at h1 h2 ⊢
 unfold cLt at*
 rcases h1 with h1 | ⟨e1,h1⟩<;>rcases h2 with h2 | ⟨e2,h2⟩
 ·exact .inl (cQ h1 h2)
 ·exact .inl (by rw[← e2];exact h1)
 ·exact .inl (by rw[e1];exact h2)
 ·right
  refine⟨e1.trans e2, ?_⟩
  rcases h1 with h1 | ⟨f1,h1⟩<;>rcases h2 with h2 | ⟨f2,h2⟩
  ·exact .inl (cQ h1 h2)
  ·exact .inl (by rw[← f2];exact h1)
  ·exact .inl (by rw[f1];exact h2)
  ·exact .inr ⟨f1.trans f2,cQ h1 h2⟩
def k3 (c:ah):List UInt8×List UInt8×List UInt8:=(c.1,c.2.1,c.2.2.1)
theorem Cz {a a' b b':ah} (h1:k3 a=k3 a') (h2:k3 b=k3 b'):bZ a b=bZ a' b':=by
 unfold k3 at h1 h2
 obtain⟨x1,x⟩:=Prod.mk.inj h1
 obtain⟨x2,x3⟩:=Prod.mk.inj x
 obtain⟨y1,y⟩:=Prod.mk.inj h2
 obtain⟨y2,y3⟩:=Prod.mk.inj y
 unfold bZ
 rw[x1,x2,x3,y1,y2,y3]
theorem Np (a:ah):bZ a a=0:=by
 unfold bZ
 rw[gp.2 rfl,gp.2 rfl,gp.2 rfl];rfl
theorem U0 {a b:ah} (h:bZ a b=0):k3 a=k3 b:=by
 unfold bZ at h
 have h1:=dO h 0 _ rfl
 have h2:=dO h 1 _ rfl
 have h3:=dO h 2 _ rfl
 unfold k3
 rw[gp.1 h1,gp.1 h2,gp.1 h3]
theorem Xo {a b:ah} (h:bZ a b<0):k3 a≠k3 b:=fun e=>by
 rw[Cz e rfl,Np] at h;omega
theorem Wm {a b:ah} (h1:¬ bZ a b<0) (h2:¬ bZ a b=0):bZ b a<0:=by
 rw[IP]
 have h3:¬ cLt a b:=fun h=>h1 (IP.2 h)
 unfold cLt at*
 rcases gY a.1 b.1 with g | g | g
 ·exact absurd (.inl g) h3
 ·right
  refine⟨g.symm, ?_⟩
  rcases gY a.2.1 b.2.1 with g2 | g2 | g2
  ·exact absurd (.inr ⟨g,.inl g2⟩) h3
  ·right
   refine⟨g2.symm, ?_⟩
   rcases gY a.2.2.1 b.2.2.1 with g4 | g4 | g4
   ·exact absurd (.inr ⟨g,.inr ⟨g2,g4⟩⟩) h3
   ·exfalso
    apply h2
    rw[Cz (a:=a) (a':=b) (b:=b) (b':=b) (by unfold k3;rw[g,g2,g4]) rfl,Np]
   ·exact g4
  ·exact .inl g2
 ·exact .inl g
def vD (l:List ah):Prop:=l.Pairwise fun a b=>bZ a b<0
theorem TG {l:List ah} (h:eY l=0):vD l:=by
 unfold eY at h
 split at h
 ·omega
 have step:∀ i x y,l[i]? =some x→l[i+1]? =some y→bZ x y<0:=fun i x y hx hy=>by
  have:=dO h (i+1) y hy
  rw[abm] at this
  unfold wR at this
  split at this
  ·omega
  split at this
  ·omega
  split at this
  ·omega
  split at this
  ·omega
  rename_i hp
  unfold uT at hp
  dsimp only at hp
  rw[hx] at hp
  dsimp only at hp
  simp at hp
  omega
 unfold vD
 refine aaM.2 ?_
 have key:∀ (d i:Nat) x y,l[i]? =some x→l[i+d+1]? =some y→bZ x y<0:=by
  intro d
  induction d with
  | zero=>intro i x y hx hy;exact step i x y hx hy
  | succ d ih=>
   intro i x y hx hy
   have hlt:=(Z6.1 hy).1
   have hz:l[i+d+1]? =some (l[i+d+1]'(by omega)):=Z4 _
   exact uz (ih i x _ hx hz) (step (i+d+1) _ y hz (by rw[show i+d+1+1=i+(d+1)+1 by omega];exact hy))
 intro i j hi hj hij
 exact key (j - i - 1) i _ _ (Z4 hi) (by rw[show i+(j - i - 1)+1=j by omega];exact Z4 hj)
def mxP (a b:ai):Int:=if b.2>a.2 then b.2 else a.2
def Gd (d:ai):Prop:=cK d∧d.2≤3∧0≤d.1
theorem Yi {n:Nat} (h:n≤3):(1:Int)≤10 ^ n∧(10:Int) ^ n≤1000:=by
 match n,h with
 | 0,_=>exact⟨by decide,by decide⟩
 | 1,_=>exact⟨by decide,by decide⟩
 | 2,_=>exact⟨by decide,by decide⟩
 | 3,_=>exact⟨by decide,by decide⟩
def zS (y c:ai):Int:=y.1*10 ^ (mxP y c - y.2).toNat+c.1*10 ^ (mxP y c - c.2).toNat
theorem KS {y c:ai} (hy:Gd y) (hc:Gd c):y.2≤mxP y c∧c.2≤mxP y c∧0≤mxP y c∧mxP y c≤3:=by
 have h1:=hy.1.2;have h2:=hy.2.1;have h3:=hc.1.2;have h4:=hc.2.1
 unfold mxP
 split<;>omega
theorem UN {y c:ai} (hy:Gd y) (hc:Gd c):0≤zS y c∧zS y c≤2000000000000000000∧0≤y.1*10 ^ (mxP y c - y.2).toNat∧y.1*10 ^ (mxP y c - y.2).toNat≤1000000000000000000∧0≤c.1*10 ^ (mxP y c - c.2).toNat∧c.1*10 ^ (mxP y c - c.2).toNat≤1000000000000000000:=by
 obtain⟨p1,p2,p3,p4⟩:=KS hy hc
 have a1:=hy.1.1;have a2:=hy.2.2;have b1:=hc.1.1;have b2:=hc.2.2
 have a3:=hy.1.2;have b3:=hc.1.2
 have e1:=Yi (n:=(mxP y c - y.2).toNat) (by omega)
 have e2:=Yi (n:=(mxP y c - c.2).toNat) (by omega)
 unfold zS
 generalize (10:Int) ^ (mxP y c - y.2).toNat=A at*
 generalize (10:Int) ^ (mxP y c - c.2).toNat=B at*
 have n1:=Zx a2 (by omega:0≤A)
 have n2:y.1*A≤y.1*1000:=Zw e1.2 a2
 have n3:=Zx b2 (by omega:0≤B)
 have n4:c.1*B≤c.1*1000:=Zw e2.2 b2
 omega
theorem WS {y c:ai} (hy:Gd y) (hc:Gd c):jt y (mxP y c)=some (W (y.1*10 ^ (mxP y c - y.2).toNat),())∧jt c (mxP y c)=some (W (c.1*10 ^ (mxP y c - c.2).toNat),())∧
 nD (W (y.1*10 ^ (mxP y c - y.2).toNat)) (W (c.1*10 ^ (mxP y c - c.2).toNat))=some (W (zS y c),()):=by
 obtain⟨p1,p2,p3,p4⟩:=KS hy hc
 obtain⟨z0,z1,z2,z3,z4,z5⟩:=UN hy hc
 have a1:=hy.1.1;have b1:=hc.1.1
 have a3:=hy.1.2;have b3:=hc.1.2
 have sm:∀ n:Nat,n≤10 ^ 40→n<4294967296 ^ 99:=fun n h=>by
  have h1:(10:Nat) ^ 40<4294967296 ^ 99:=by decide
  omega
 exact⟨zK _ _ (by omega) (by omega) (by omega) (by omega) ⟨by omega,by omega⟩,zK _ _ (by omega) (by omega) (by omega) (by omega) ⟨by omega,by omega⟩,
  Ic _ _ (sm _ (by omega)) (sm _ (by omega))⟩
theorem Uz {y c:ai} (hy:Gd y) (hc:Gd c):K9 [y,c]=some (if (zS y c).natAbs≤1000000000000000 then ((zS y c,mxP y c),0,()) else ((0,0),1,())):=by
 obtain⟨p1,p2,p3,p4⟩:=KS hy hc
 obtain⟨z0,z1,z2,z3,z4,z5⟩:=UN hy hc
 have a3:=hy.1.2
 unfold K9
 rw[show decide (((([y,c]:List ai).length:Nat):Int)>1000)=false from rfl,abA]
 have l1:∀ f,2<f→iter (X:=BA) (β:=Bz) f ([y,c],0,[y,c],((2:Nat):Int),0,0,0,()) GK=some (Sum.inr ([y,c],mxP y c,0,0,())):=by
  intro f hf
  obtain⟨f,rfl⟩:∃ m,f=m+3:=⟨f - 3,by omega⟩
  rw[br]
  unfold GK
  dsimp only
  rw[aB (by omega),show idx [y,c] 0=some y from rfl,abo,pJ,abO hy.1,abo]
  dsimp only
  rw[show ((0:Int) != 0)=false from rfl,abA,aC (n:=(0:Int)+1) (by omega) (by omega),br]
  dsimp only
  rw[aB (by omega),show idx [y,c] (0+1)=some c from rfl,abo,pJ,abO hc.1,abo]
  dsimp only
  rw[show ((0:Int) != 0)=false from rfl,abA,aC (n:=(0:Int)+1+1) (by omega) (by omega),br]
  dsimp only
  have e0:(if y.2>0 then y.2 else 0)=y.2:=by split<;>omega
  rw[aF (by omega),e0]
  rfl
 have l2:∀ f,2<f→iter (X:=zl) (β:=zk) f (mxP y c,[y,c],((2:Nat):Int),0,0,0,false,[],()) Eg=some (Sum.inr (mxP y c,0,0,(N (zS y c)).1,(N (zS y c)).2,())):=by
  intro f hf
  have n1:(dg6 (y.1*10 ^ (mxP y c - y.2).toNat).natAbs).length<10000:=Nat.lt_trans (Le.n (k:=100) (show (y.1*10 ^ (mxP y c - y.2).toNat).natAbs≤10 ^ 100 by omega) (by omega)) (by omega)
  have n2:(dg6 (c.1*10 ^ (mxP y c - c.2).toNat).natAbs).length<10000:=Nat.lt_trans (Le.n (k:=100) (show (c.1*10 ^ (mxP y c - c.2).toNat).natAbs≤10 ^ 100 by omega) (by omega)) (by omega)
  obtain⟨f,rfl⟩:∃ m,f=m+3:=⟨f - 3,by omega⟩
  rw[br]
  unfold Eg
  dsimp only
  rw[aB (by omega),show idx [y,c] 0=some y from rfl,abo,NR y _ hy.1 p1 (by omega),abo]
  dsimp only
  rw[show ((false,[]):au)=N 0 from rfl,Ee _ _ (by decide) n1,abo]
  dsimp only
  rw[Int.zero_add (y.1*10 ^ (mxP y c - y.2).toNat),aC (n:=(0:Int)+1) (by omega) (by omega),br]
  dsimp only
  rw[aB (by omega),show idx [y,c] (0+1)=some c from rfl,abo,NR c _ hc.1 p2 (by omega),abo]
  dsimp only
  rw[show ((N (y.1*10 ^ (mxP y c - y.2).toNat)).1,(N (y.1*10 ^ (mxP y c - y.2).toNat)).2)=N (y.1*10 ^ (mxP y c - y.2).toNat) from rfl,Ee _ _ n1 n2,abo]
  dsimp only
  rw[aC (n:=(0:Int)+1+1) (by omega) (by omega),br]
  dsimp only
  rw[aF (by omega)]
  rfl
 rw[show ((([y,c]:List ai).length:Nat):Int)=((2:Nat):Int) from rfl,l1 _ (by simp only[aaj,aam];omega),aM]
 dsimp only
 rw[show ((([y,c]:List ai).length:Nat):Int)=((2:Nat):Int) from rfl,l2 _ (by simp only[aaj,aam];omega),aM]
 dsimp only
 unfold Eh
 rw[show ((N (zS y c)).1,(N (zS y c)).2)=N (zS y c) from rfl,SN _ _ (by omega) (by omega) (Le.mono (a:=30) (show (zS y c).natAbs≤10 ^ 30 by omega) (by omega)),abo]
 by_cases h:(zS y c).natAbs≤1000000000000000
 ·rw[abO (show (zS y c).natAbs≤(1000000000000000:Int) by omega),abO h];rfl
 ·rw[abN (show ¬ (zS y c).natAbs≤(1000000000000000:Int) by omega),abN h];rfl
end Go.Md
set_option linter.all false
set_option maxRecDepth 20000
namespace Go.Md
open Go.Dn
def bW (c:ah):List ah→Nat
 | []=>0
 | x::r=>if bZ x c<0 then bW c r+1 else 0
theorem C5 (c:ah):∀ l,bW c l≤l.length
 | []=>aa7 _
 | x::r=>by
  unfold bW
  have:=C5 c r
  split
  ·simp;omega
  ·simp
theorem MS (c:ah):∀ (l:List ah) (k:Nat) (x:ah),k<bW c l→l[k]? =some x→bZ x c<0
 | [],_,_,_,h=>by simp at h
 | y::r,0,x,h,hx=>by
  unfold bW at h
  split at h
  ·cases hx;assumption
  ·omega
 | y::r,k+1,x,h,hx=>by
  unfold bW at h
  split at h
  ·exact MS c r k x (by omega) (by simpa using hx)
  ·omega
theorem Hy (c:ah):∀ (l:List ah) (x:ah),l[bW c l]? =some x→¬ bZ x c<0
 | [],x,h=>by simp at h
 | y::r,x,h=>by
  unfold bW at h
  split at h
  ·exact Hy c r x (by simpa using h)
  ·cases h;assumption
theorem XK (c:ah) (l:List ah) (i:Nat) (hi:i≤l.length) (h1:∀ k x,k<i→l[k]? =some x→bZ x c<0) (h2:∀ x,l[i]? =some x→¬ bZ x c<0):bW c l=i:=by
 have hle:=C5 c l
 rcases abe (bW c l) i with h | h | h
 ·have hx:l[bW c l]? =some (l[bW c l]'(by omega)):=Z4 _
  exact absurd (h1 _ _ h hx) (Hy c l _ hx)
 ·exact h
 ·have hx:l[i]? =some (l[i]'(by omega)):=Z4 _
  exact absurd (MS c l i _ h hx) (h2 _ hx)
theorem TA (c:ah):∀ {l l':List ah},l.map k3=l'.map k3→bW c l=bW c l'
 | [],[],_=>rfl
 | [],_::_,h=>by simp at h
 | _::_,[],h=>by simp at h
 | x::r,y::s,h=>by
  simp only[aat,List.cons.injEq] at h
  unfold bW
  rw[Cz h.1 (show k3 c=k3 c from rfl),TA c h.2]
theorem RN (l:List ah) (c:ah) (hl:l.length<1000000000) (hs:vD l):
 ∃ b:Bool,bU l c ()=some ((bW c l:Int),b,())∧(b=true↔∃ y,l[bW c l]? =some y∧bZ y c=0):=by
 unfold bU
 have hss:∀ i j x y,i<j→l[i]? =some x→l[j]? =some y→bZ x y<0:=fun i j x y hij hx hy=>by
  obtain⟨i1,i2⟩:=Z6.1 hx
  obtain⟨j1,j2⟩:=Z6.1 hy
  have:=aaM.1 hs i j i1 j1 hij
  rw[i2,j2] at this;exact this
 have loop:∀ f,l.length<f→iter f ((l,(),(l.length:Int),(0:Int),(l.length:Int),c.1,c.2.1,c.2.2.1,c.2.2.2.1,c.2.2.2.2,()):bB) cA=some (Sum.inr (l,(),(l.length:Int),((bW c l:Nat):Int),c.1,c.2.1,c.2.2.1,c.2.2.2.1,c.2.2.2.2,())):=by
  intro f hf
  refine qs (Inv:=fun X=>∃ i j:Nat,X=((l,(),(l.length:Int),(i:Int),(j:Int),c.1,c.2.1,c.2.2.1,c.2.2.2.1,c.2.2.2.2,()):bB)∧i≤j∧j≤l.length∧(∀ k x,l[k]? =some x→k<i→bZ x c<0)∧∀ k x,l[k]? =some x→j≤k→¬ bZ x c<0)
   (fun X=>(X.2.2.2.2.1 - X.2.2.2.1).toNat)
   (fun _ r=>r=some (Sum.inr (l,(),(l.length:Int),((bW c l:Nat):Int),c.1,c.2.1,c.2.2.1,c.2.2.2.1,c.2.2.2.2,()))) ?_ f _ ⟨0,l.length,rfl,by omega,by omega,fun _ _ _ h=>absurd h (abh _),fun k x hk hle=>by have:=(Z6.1 hk).1;omega⟩ (by dsimp only;omega)
  rintro _ again ⟨i,j,rfl,hij,hj,h1,h2⟩ ih
  dsimp only at ih
  unfold cA
  dsimp only
  by_cases hlt:i<j
  ·rw[aB (by omega)]
   have em:w64 (Int.fdiv (bH (w64 ((i:Int)+(j:Int)))) (2 ^ 1))=(((i+j) / 2:Nat):Int):=by
    rw[aC (n:=(i:Int)+(j:Int)) (by omega) (by omega),cH (by omega) (by omega),Zs _ (by omega),aC (by omega) (by omega)]
    omega
   rw[em]
   have hm:(i+j) / 2<l.length:=by omega
   have hy:l[(i+j) / 2]? =some l[(i+j) / 2]:=aJ hm
   have hmi:i≤(i+j) / 2∧(i+j) / 2<j:=by omega
   generalize (i+j) / 2=m at*
   generalize l[m]=y at hy
   rw[bq,hy,abo,jU,abo]
   dsimp only
   have ec:bZ y (c.1,c.2.1,c.2.2.1,c.2.2.2.1,c.2.2.2.2)=bZ y c:=rfl
   rw[ec]
   by_cases hc:bZ y c<0
   ·rw[aB hc,aC (by omega) (by omega)]
    refine ih _ ⟨m+1,j,rfl,by omega,hj,fun k x hk hkm=> ?_,h2⟩ (by dsimp only;omega)
    rcases abc.1 hkm with h | h
    ·exact uz (hss k m x y h hk hy) hc
    ·subst h;rw[hy] at hk;cases hk;exact hc
   ·rw[aF hc]
    refine ih _ ⟨i,m,rfl,by omega,by omega,h1,fun k x hk hkm=> ?_⟩ (by dsimp only;omega)
    rcases Nat.lt_or_eq_of_le hkm with h | h
    ·exact fun hx=>hc (uz (hss m k y x h hy hk) hx)
    ·subst h;rw[hy] at hk;cases hk;exact hc
  ·rw[aF (by omega)]
   have:i=j:=by omega
   subst this
   rw[XK c l i hj (fun k x hk hx=>h1 k x hx hk) (fun x hx=>h2 i x hx (aa7 _))]
 have h1:=loop (List.length l+(Int.natAbs ((List.length l:Int))+(Int.natAbs (0:Int)+(Int.natAbs ((List.length l:Int))+(c.1.length+(c.2.1.length+(c.2.2.1.length+(c.2.2.2.1.natAbs+(c.2.2.2.2.natAbs+2))))))))) (by omega)
 rw[h1,aM]
 dsimp only
 have h2:=C5 c l
 by_cases hi:bW c l<l.length
 ·have hy:l[bW c l]? =some l[bW c l]:=aJ hi
  rw[aB (by omega),bq,hy,abo,jU,abo]
  dsimp only
  refine⟨_,rfl, ?_⟩
  have ec:bZ l[bW c l] (c.1,c.2.1,c.2.2.1,c.2.2.2.1,c.2.2.2.2)=bZ l[bW c l] c:=rfl
  rw[ec]
  constructor
  ·intro h
   exact⟨_,rfl,by simpa using h⟩
  ·rintro⟨y,e,h⟩
   rw[← Option.some.inj e] at h
   simpa using h
 ·rw[aF (by omega)]
  refine⟨false,rfl,fun h=>(by cases h), ?_⟩
  rintro⟨y,e,_⟩
  rw[Z5 (by omega)] at e;cases e
theorem Su (M cs:List ah) (c:ah) (hl:M.length<1000000000) (q1 q2:Int):
 ∀ (r:List ah) (i f:Nat),M.drop i=r→i≤M.length→r.length<f→
  iter (X:=sO) (β:=sN) f (M,(i:Int),cs,q1,q2,c.1,c.2.1,c.2.2.1,c.2.2.2.1,c.2.2.2.2,()) oT=some (Sum.inr (M,((i+bW c r:Nat):Int),cs,q1,q2,c.1,c.2.1,c.2.2.1,c.2.2.2.1,c.2.2.2.2,())):=by
 intro r
 induction r with
 | nil=>
  intro i f hdr hi hf
  have:i=M.length:=by
   have:=congrArg List.length hdr
   simp at this;omega
  obtain⟨f,rfl⟩:∃ m,f=m+1:=⟨f - 1,by omega⟩
  rw[br]
  unfold oT
  dsimp only
  rw[aF (by omega),abo]
  rfl
 | cons x r ih=>
  intro i f hdr hi hf
  have hx:M[i]? =some x:=by
   have:=congrArg (·[0]?) hdr
   simpa [Z3] using this
  have hr':M.drop (i+1)=r:=by
   have:=congrArg List.tail hdr
   simpa [aaS] using this
  have hlt:=(Z6.1 hx).1
  obtain⟨f,rfl⟩:∃ m,f=m+1:=⟨f - 1,by simp at hf;omega⟩
  simp only[aaj] at hf
  have hp:bW c (x::r)=if bZ x c<0 then bW c r+1 else 0:=rfl
  rw[br,hp]
  generalize hag:(fun y=>iter f y oT)=again
  unfold oT
  dsimp only
  rw[aB (by omega),aQ (by rw[Zd];exact⟨abF (by omega),abF (by omega)⟩),ZD,hx,abo,kW,abo,abo]
  dsimp only
  rw[show bZ x (c.1,c.2.1,c.2.2.1,c.2.2.2.1,c.2.2.2.2)=bZ x c from rfl]
  by_cases hb:bZ x c<0
  ·rw[abF hb,abB,abO hb,aC (n:=(i:Int)+1) (by omega) (by omega), ← hag,show (i:Int)+1=((i+1:Nat):Int) by omega]
   refine (ih (i+1) f hr' (by omega) (by omega)).trans ?_
   rw[show i+1+bW c r=i+(bW c r+1) by omega]
  ·rw[abD hb,abA,abN hb];rfl
theorem Tb {α:Type} (M:List α) (j:Nat) (hj:j≤M.length) (c:α) (n:Nat):(M.take j++c::M.drop j)[n]? =if n<j then M[n]? else if n=j then some c else M[n - 1]? :=by
 have h:(M.take j).length=j:=by rw[aaq];omega
 by_cases h1:n<j
 ·rw[abO h1,ZZ (by omega),aad h1]
 ·rw[abN h1,Z0 (by omega),h]
  by_cases h2:n=j
  ·rw[abO h2,h2,abl];rfl
  ·rw[abN h2,show n - j=(n - 1 - j)+1 by omega,Z1,Z3,show j+(n - 1 - j)=n - 1 by omega]
structure Rl (done M1 M2:List ah):Prop where
 keys:M1.map k3=M2.map k3
 each:∀ (n:Nat) (c1 c2:ah),M1[n]? =some c1→M2[n]? =some c2→(c1=c2∧Gd c1.2.2.2)∨(bad c1∧bad c2∧∃ d∈done,k3 d=k3 c1)
theorem Rl.len {done M1 M2:List ah} (h:Rl done M1 M2):M1.length=M2.length:=by
 have:=congrArg List.length h.keys
 simpa using this
theorem Rl.eC {done M1 M2:List ah} (h:Rl done M1 M2):M1.map Go.Md.eC=M2.map Go.Md.eC:=by
 apply ZV
 intro n
 rw[Z7,Z7]
 by_cases hn:n<M1.length
 ·have h1:M1[n]? =some M1[n]:=Z4 hn
  have h2:M2[n]? =some (M2[n]'(by rw[← h.len];exact hn)):=Z4 _
  rw[h1,h2,abu,abu]
  congr 1
  rcases h.each n _ _ h1 h2 with ⟨e,_⟩ | ⟨b1,b2,_⟩
  ·rw[e]
  ·have hk:=congrArg (·[n]?) h.keys
   simp only[Z7,h1,h2,abu] at hk
   have hk':=Option.some.inj hk
   unfold k3 at hk'
   obtain⟨x1,x⟩:=Prod.mk.inj hk'
   obtain⟨x2,x3⟩:=Prod.mk.inj x
   unfold bad at b1 b2
   unfold Go.Md.eC
   rw[abN (by rw[b1];simp),abN (by rw[b2];simp),x1,x2,x3]
 ·rw[Z5 (by omega),Z5 (by rw[← h.len];omega)]
theorem XW {l l':List ah} (h:l.map k3=l'.map k3) (hs:vD l):vD l':=by
 have hlen:l.length=l'.length:=by
  have:=congrArg List.length h
  simpa using this
 refine aaM.2 ?_
 intro i j hi hj hij
 have h1:=aaM.1 hs i j (by omega) (by omega) hij
 have e:∀ n (hn:n<l'.length),k3 (l[n]'(by omega))=k3 l'[n]:=fun n hn=>by
  have hk:=congrArg (·[n]?) h
  simp only[Z7,Z4 hn,Z4 (show n<l.length by omega),abu] at hk
  exact Option.some.inj hk
 rw[← Cz (e i hi) (e j hj)]
 exact h1
theorem W3 {M:List ah} (hs:vD M) (c:ah) (hne:∀ y,M[bW c M]? =some y→bZ y c≠0):vD (M.take (bW c M)++c::M.drop (bW c M)):=by
 have hle:=C5 c M
 have hss:∀ i j x y,i<j→M[i]? =some x→M[j]? =some y→bZ x y<0:=fun i j x y hij hx hy=>by
  obtain⟨i1,i2⟩:=Z6.1 hx
  obtain⟨j1,j2⟩:=Z6.1 hy
  have:=aaM.1 hs i j i1 j1 hij
  rw[i2,j2] at this;exact this
 have hlo:=MS c M
 have hat:=Hy c M
 generalize bW c M=k at*
 have hhi:∀ y∈M.drop k,bZ c y<0:=by
  intro y hy
  obtain⟨n,hn⟩:=aaA.1 hy
  rw[Z3] at hn
  have hlt:=(Z6.1 hn).1
  have hk:M[k]? =some (M[k]'(by omega)):=Z4 _
  have h1:=Wm (hat _ hk) (hne _ hk)
  by_cases e:n=0
  ·subst e;rw[aa1,hk] at hn;rw[← Option.some.inj hn];exact h1
  ·exact uz h1 (hss k (k+n) _ _ (by omega) hk hn)
 have hlo':∀ y∈M.take k,bZ y c<0:=by
  intro y hy
  obtain⟨n,hn⟩:=aaA.1 hy
  have hlt:=(Z6.1 hn).1
  rw[aaq] at hlt
  rw[aad (by omega)] at hn
  exact hlo n y (by omega) hn
 unfold vD
 rw[aaK]
 refine⟨hs.sublist (List.take_sublist _ _),aaL.2 ⟨hhi,hs.sublist (List.drop_sublist _ _)⟩, ?_⟩
 intro a ha b hb
 rcases aaw.1 hb with rfl | hb
 ·exact hlo' a ha
 ·exact uz (hlo' a ha) (hhi b hb)
theorem Wy {M:List ah} (hM:M.length≤10000) {j:Nat} (hj:j≤M.length) (c:ah):dZ M (j:Int) [c]=some (M.take j++c::M.drop j,()):=by
 show sB 64 _ _ _=_
 unfold sB
 rw[show (decide (0≤(j:Int))&&(decide ((j:Int)≤(M.length:Int))&&(decide (0<[c].length)&&(decide ((M.length+[c].length)*64≤140737488355328)&&decide (M.length+[c].length≤4611686018427387904)))))=true by
  simp only[Zd,abG,aap]
  omega]
 rw[abB,ZD]
 rfl
theorem Xu (y c:ai):qOk ((1000000000000001,mxP y c):ai) false=false:=by
 unfold qOk inR
 have:¬ (cK ((1000000000000001,mxP y c):ai)∧((1000000000000001,mxP y c):ai).2≤3∧0*10 ^ (((1000000000000001,mxP y c):ai).2).toNat≤((1000000000000001,mxP y c):ai).1∧((1000000000000001,mxP y c):ai).1≤1000000000*10 ^ (((1000000000000001,mxP y c):ai).2).toNat):=by
  rintro⟨h,_⟩
  have:=h.1
  dsimp only at this
  omega
 rw[abD this];rfl
theorem Xv:qOk (((-1),0):ai) false=false:=by
 unfold qOk inR
 have:¬ (cK (((-1),0):ai)∧(((-1),0):ai).2≤3∧0*10 ^ ((((-1),0):ai).2).toNat≤(((-1),0):ai).1∧(((-1),0):ai).1≤1000000000*10 ^ ((((-1),0):ai).2).toNat):=by
  rintro⟨_,_,h,_⟩
  dsimp only at h
  omega
 rw[abD this];rfl
theorem WW {cs:List ah} (hcl:cs.length≤1000) (hcs:∀ c∈cs,Gd c.2.2.2) (hss:vD cs):
 ∀ (r:List ah) (i f1 f2:Nat) (M1 M2:List ah),cs.drop i=r→i≤cs.length→r.length<f1→r.length<f2→M1.length≤1000+i→vD M1→Rl (cs.take i) M1 M2→
  ∃ N1 N2,iter (X:=fO) (β:=fN) f1 (M1,cs,(cs.length:Int),(i:Int),()) eM=some (Sum.inr (N1,()))∧
   iter (X:=fQ) (β:=fP) f2 (M2,cs,(cs.length:Int),(i:Int),()) eN=some (Sum.inr (N2,()))∧N1.map eC=N2.map eC:=by
 intro r
 induction r with
 | nil=>
  intro i f1 f2 M1 M2 hdr hi hf1 hf2 hMl hs hR
  have:i=cs.length:=by
   have:=congrArg List.length hdr
   simp at this;omega
  obtain⟨f1,rfl⟩:∃ m,f1=m+1:=⟨f1 - 1,by omega⟩
  obtain⟨f2,rfl⟩:∃ m,f2=m+1:=⟨f2 - 1,by omega⟩
  refine⟨M1,M2, ?_, ?_,hR.eC⟩
  ·rw[br]
   unfold eM
   dsimp only
   rw[aF (by omega)]
  ·rw[br]
   unfold eN
   dsimp only
   rw[aF (by omega)]
 | cons c r ih=>
  intro i f1 f2 M1 M2 hdr hi hf1 hf2 hMl hs hR
  have hx:cs[i]? =some c:=by
   have:=congrArg (·[0]?) hdr
   simpa [Z3] using this
  have hr':cs.drop (i+1)=r:=by
   have:=congrArg List.tail hdr
   simpa [aaS] using this
  have hlt:=(Z6.1 hx).1
  have hc:=hcs c (aaC hx)
  obtain⟨f1,rfl⟩:∃ m,f1=m+1:=⟨f1 - 1,by simp at hf1;omega⟩
  obtain⟨f2,rfl⟩:∃ m,f2=m+1:=⟨f2 - 1,by simp at hf2;omega⟩
  simp only[aaj] at hf1 hf2
  have htk:cs.take (i+1)=cs.take i++[c]:=by rw[aaT,hx];rfl
  have hnk:∀ d∈cs.take i,k3 d≠k3 c:=by
   intro d hd
   obtain⟨n,hn⟩:=aaA.1 hd
   have hnl:=(Z6.1 hn).1
   rw[aaq] at hnl
   rw[aad (by omega)] at hn
   have:=aaM.1 hss n i (by omega) hlt (by omega)
   rw[(Z6.1 hn).2,(Z6.1 hx).2] at this
   exact Xo this
  have hlen:=hR.len
  obtain⟨b,g1,g2⟩:=RN M1 c (by omega) hs
  have hpos:bW c M1=bW c M2:=TA c hR.keys
  have hle:=C5 c M1
  have hls:=Su M2 cs c (by omega) (cs.length:Int) (i:Int) M2 0
  rw[abm, ← hpos,show ((0:Nat):Int)=0 from rfl] at hls
  have step:∀ M1' M2':List ah,M1'.length≤1000+(i+1)→vD M1'→Rl (cs.take (i+1)) M1' M2'→
   iter (X:=fO) (β:=fN) (f1+1) (M1,cs,(cs.length:Int),(i:Int),()) eM=iter (X:=fO) (β:=fN) f1 (M1',cs,(cs.length:Int),((i+1:Nat):Int),()) eM→
   iter (X:=fQ) (β:=fP) (f2+1) (M2,cs,(cs.length:Int),(i:Int),()) eN=iter (X:=fQ) (β:=fP) f2 (M2',cs,(cs.length:Int),((i+1:Nat):Int),()) eN→
   ∃ N1 N2,iter (X:=fO) (β:=fN) (f1+1) (M1,cs,(cs.length:Int),(i:Int),()) eM=some (Sum.inr (N1,()))∧
    iter (X:=fQ) (β:=fP) (f2+1) (M2,cs,(cs.length:Int),(i:Int),()) eN=some (Sum.inr (N2,()))∧N1.map eC=N2.map eC:=by
   intro M1' M2' q1 q2 q3 q4 q5
   obtain⟨N1,N2,k1,k2,k4⟩:=ih (i+1) f1 f2 M1' M2' hr' (by omega) (by omega) (by omega) q1 q2 q3
   exact⟨N1,N2,by rw[q4];exact k1,by rw[q5];exact k2,k4⟩
  have hw:w64 ((i:Int)+1)=((i+1:Nat):Int):=by rw[aC (n:=(i:Int)+1) (by omega) (by omega)];omega
  have ecc:((c.1,c.2.1,c.2.2.1,c.2.2.2.1,c.2.2.2.2):ah)=c:=rfl
  cases hb:b with
  | false=>
   have hne:∀ y,M1[bW c M1]? =some y→bZ y c≠0:=fun y hy e=>by
    have:=g2.2 ⟨y,hy,e⟩
    rw[hb] at this;cases this
   refine step (M1.take (bW c M1)++c::M1.drop (bW c M1)) (M2.take (bW c M1)++c::M2.drop (bW c M1)) (by simp;omega) (W3 hs c hne) ?_ ?_ ?_
   ·refine⟨?_, ?_⟩
    ·rw[aar,aar,aat,aat,List.map_take,List.map_take,List.map_drop,List.map_drop,hR.keys]
    ·intro n c1 c2 h1 h2
     rw[Tb M1 _ hle] at h1
     rw[Tb M2 _ (by omega)] at h2
     have old:∀ m,M1[m]? =some c1→M2[m]? =some c2→(c1=c2∧Gd c1.2.2.2)∨(bad c1∧bad c2∧∃ d∈cs.take (i+1),k3 d=k3 c1):=fun m e1 e2=>by
      rcases hR.each m c1 c2 e1 e2 with h | ⟨h3,h4,d,h5,h6⟩
      ·exact .inl h
      ·exact .inr ⟨h3,h4,d,by rw[htk];exact aav _ h5,h6⟩
     by_cases hn1:n<bW c M1
     ·rw[abO hn1] at h1 h2;exact old n h1 h2
     ·rw[abN hn1] at h1 h2
      by_cases hn2:n=bW c M1
      ·rw[abO hn2] at h1 h2
       cases h1;cases h2
       exact .inl ⟨rfl,hc⟩
      ·rw[abN hn2] at h1 h2;exact old (n - 1) h1 h2
   ·rw[br]
    unfold eM
    dsimp only
    rw[aB (by omega),bq,hx,abo,g1,abo,hb]
    dsimp only
    rw[Zn,abB,Wy (by omega) hle,abo]
    dsimp only
    rw[hw]
   ·rw[br]
    unfold eN
    dsimp only
    rw[aB (by omega),bq,hx,abo,hls _ rfl (abn _) (by omega),aM]
    dsimp only
    by_cases he:bW c M1=M2.length
    ·rw[show (((bW c M1:Nat):Int)==(M2.length:Int))=true by rw[he];simp,abB,Wy (by omega) (by omega),abo]
     dsimp only
     rw[hw]
    ·have hlt1:bW c M1<M1.length:=by omega
     have hy1:M1[bW c M1]? =some M1[bW c M1]:=Z4 hlt1
     have hy2:M2[bW c M1]? =some (M2[bW c M1]'(by omega)):=Z4 _
     have hk:=congrArg (·[bW c M1]?) hR.keys
     simp only[Z7,hy1,hy2,abu] at hk
     have hk':=Option.some.inj hk
     have e0:=hne _ hy1
     have e1:=Hy c M1 _ hy1
     have hord:bZ (M2[bW c M1]'(by omega)) c=bZ M1[bW c M1] c:=(Cz hk' (show k3 c=k3 c from rfl)).symm
     rw[show (((bW c M1:Nat):Int)==(M2.length:Int))=false by rw[abx];omega,abA,aQ (by rw[Zd];exact⟨abF (by omega),abF (by omega)⟩),ZD,hy2,abo,ecc,kW,abo]
     dsimp only
     rw[hord,aB (by omega),Wy (by omega) (by omega),abo]
     dsimp only
     rw[hw]
  | true=>
   obtain⟨y,hy,hky⟩:=g2.1 hb
   have hjl:=(Z6.1 hy).1
   have hky3:k3 y=k3 c:=U0 hky
   have hy2':M2[bW c M1]? =some (M2[bW c M1]'(by omega)):=Z4 _
   obtain⟨hy2,hyg⟩:M2[bW c M1]? =some y∧Gd y.2.2.2:=by
    rcases hR.each _ _ _ hy hy2' with ⟨e,h⟩ | ⟨_,_,d,h5,h6⟩
    ·rw[hy2', ← e];exact⟨rfl,h⟩
    ·exact absurd (h6.trans hky3) (hnk d h5)
   obtain⟨s1,s2,s3⟩:=WS hyg hc
   obtain⟨z0,z1,_⟩:=UN hyg hc
   obtain⟨p1,p2,p3,p4⟩:=KS hyg hc
   clear hy2'
   generalize hj:bW c M1=j at*
   have hjc:(decide (0≤(j:Int))&&decide ((j:Int)<(M1.length:Int)))=true:=by rw[Zd];exact⟨abF (by omega),abF (by omega)⟩
   have hjc2:(decide (0≤(j:Int))&&decide ((j:Int)<(M2.length:Int)))=true:=by rw[Zd];exact⟨abF (by omega),abF (by omega)⟩
   have hset:∀ (M:List ah) (q:ai),M[j]? =some y→(M.set j (y.1,y.2.1,y.2.2.1,q)).map k3=M.map k3:=by
    intro M q hMy
    apply ZV
    intro n
    rw[Z7,Z7,Z9]
    split
    ·rename_i h
     subst h
     rw[abO (Z6.1 hMy).1,hMy];rfl
    ·rfl
   have hRl:∀ q1 q2:ai,((q1=q2∧Gd q1)∨(qOk q1 false=false∧qOk q2 false=false))→Rl (cs.take (i+1)) (M1.set j (y.1,y.2.1,y.2.2.1,q1)) (M2.set j (y.1,y.2.1,y.2.2.1,q2)):=by
    intro q1 q2 hq
    refine⟨by rw[hset M1 q1 hy,hset M2 q2 hy2,hR.keys], ?_⟩
    intro n c1 c2 h1 h2
    by_cases hn:n=j
    ·subst hn
     rw[aab hjl] at h1
     rw[aab (by omega)] at h2
     cases h1;cases h2
     rcases hq with ⟨e,hg⟩ | ⟨b1,b2⟩
     ·exact .inl ⟨by rw[e],hg⟩
     ·exact .inr ⟨b1,b2,c,by rw[htk];exact List.mem_append_right _ (aaG.2 rfl),hky3.symm⟩
    ·rw[aaa (fun e=>hn e.symm)] at h1 h2
     rcases hR.each n c1 c2 h1 h2 with h | ⟨h3,h4,d,h5,h6⟩
     ·exact .inl h
     ·exact .inr ⟨h3,h4,d,by rw[htk];exact aav _ h5,h6⟩
   have hj2:¬ (j=M2.length):=by omega
   have pstep:iter (X:=fO) (β:=fN) (f1+1) (M1,cs,(cs.length:Int),(i:Int),()) eM=iter (X:=fO) (β:=fN) f1 (M1.set j (y.1,y.2.1,y.2.2.1,if (zS y.2.2.2 c.2.2.2).natAbs≤1000000000000000 then (zS y.2.2.2 c.2.2.2,mxP y.2.2.2 c.2.2.2) else (1000000000000001,mxP y.2.2.2 c.2.2.2)),cs,(cs.length:Int),((i+1:Nat):Int),()) eM:=by
    rw[br]
    unfold eM
    dsimp only
    rw[aB (by omega),bq,hx,abo,g1,abo,hb]
    dsimp only
    rw[Zo,abA,aQ hjc,ZD,hy,abo,aQ hjc,abo]
    rw[show (if c.2.2.2.2>y.2.2.2.2 then c.2.2.2.2 else y.2.2.2.2)=mxP y.2.2.2 c.2.2.2 from rfl,s1,abo,s2,abo]
    dsimp only
    rw[s3,abo]
    dsimp only
    rw[Lw]
    by_cases hz:(zS y.2.2.2 c.2.2.2).natAbs≤1000000000000000
    ·rw[abO hz,abO hz,abo]
     dsimp only
     rw[show ((0:Int) != 0)=false from rfl,abA,aQ hjc,abo,hw]
    ·rw[abN hz,abN hz,abo]
     dsimp only
     rw[show ((1:Int) != 0)=true from rfl,abB,aQ hjc,abo,hw]
   have rstep:iter (X:=fQ) (β:=fP) (f2+1) (M2,cs,(cs.length:Int),(i:Int),()) eN=iter (X:=fQ) (β:=fP) f2 (M2.set j (y.1,y.2.1,y.2.2.1,if (zS y.2.2.2 c.2.2.2).natAbs≤1000000000000000 then (zS y.2.2.2 c.2.2.2,mxP y.2.2.2 c.2.2.2) else ((-1),0)),cs,(cs.length:Int),((i+1:Nat):Int),()) eN:=by
    rw[br]
    unfold eN
    dsimp only
    rw[aB (by omega),bq,hx,abo,hls _ rfl (abn _) (by omega),aM]
    dsimp only
    rw[show (((j:Nat):Int)==(M2.length:Int))=false by rw[abx];omega,abA,aQ hjc2,ZD,hy2,abo,ecc,kW,abo]
    dsimp only
    rw[hky,aF (by omega),aQ hjc2,abo,show ((c.2.2.2.1,c.2.2.2.2):ai)=c.2.2.2 from rfl,Uz hyg hc]
    by_cases hz:(zS y.2.2.2 c.2.2.2).natAbs≤1000000000000000
    ·rw[abO hz,abO hz,abo]
     dsimp only
     rw[show ((0:Int) != 0)=false from rfl,abA,aQ hjc2,abo,hw]
    ·rw[abN hz,abN hz,abo]
     dsimp only
     rw[show ((1:Int) != 0)=true from rfl,abB,aQ hjc2,abo,hw]
   refine step _ _ (by rw[aao];omega) (XW (hset M1 _ hy).symm hs) (hRl _ _ ?_) pstep rstep
   by_cases hz:(zS y.2.2.2 c.2.2.2).natAbs≤1000000000000000
   ·rw[abO hz,abO hz]
    exact .inl ⟨rfl,⟨hz,p3,by dsimp only;omega⟩,p4,z0⟩
   ·rw[abN hz,abN hz]
    exact .inr ⟨Xu _ _,Xv⟩
theorem WX {M cs:List ah} (hMl:M.length≤1000) (hM:∀ c∈M,Gd c.2.2.2) (hMs:vD M) (hcl:cs.length≤1000) (hcs:∀ c∈cs,Gd c.2.2.2) (hss:vD cs):∃ N1 N2,zb M cs=some (N1,())∧uZ M cs=some (N2,())∧N1.map eC=N2.map eC:=by
 unfold zb uZ
 rw[PX hMl,abo,abo]
 dsimp only
 have hR:Rl (cs.take 0) M M:=⟨rfl,fun n c1 c2 h1 h2=>by
  rw[h1] at h2;cases h2
  exact .inl ⟨rfl,hM c1 (aaC h1)⟩⟩
 obtain⟨N1,N2,h1,h2,h3⟩:=WW hcl hcs hss cs 0 (List.length M+(List.length cs+(Int.natAbs ((List.length cs:Int))+(Int.natAbs (0:Int)+2)))) (List.length M+(List.length cs+(Int.natAbs ((List.length cs:Int))+(Int.natAbs (0:Int)+2)))) M M rfl (abn _) (by omega) (by omega) (by omega) hMs hR
 rw[show ((0:Nat):Int)=0 from rfl] at h1 h2
 rw[h1,h2,aM,aM]
 exact⟨N1,N2,rfl,rfl,h3⟩
end Go.Md
set_option linter.all false
set_option maxRecDepth 20000
namespace Go.Md
open Go.Dn
def dN (t to:List UInt8) (q:aa):aa:=if (q.2.1==t)=true then (q.1,to,q.2.2) else q
theorem zT (t to:List UInt8) (q:aa):(dN t to q).1=q.1:=by unfold dN;split<;>rfl
theorem X7 (t to:List UInt8) (q:aa):(dN t to q).2.2.2=q.2.2.2:=by unfold dN;split<;>rfl
theorem WQ (t to:List UInt8) (ii:Int) (n1 n2:List UInt8) (n3:Int) (c1 c2:List UInt8) (c3:Int) (c4:List aa) (p1:List UInt8) (p3 p4:Int) (p5:List ah) (len:Nat) (hl:len≤1000000):
 ∀ (r P:List aa) (f:Nat),P.length+r.length=len→r.length<f→
  iter (X:=mU) (β:=mT) f (t,ii,(len:Int),(P.length:Int),n1,n2,n3,c1,c2,c3,c4,p1,to,p3,p4,p5,P++r,()) jK=some (Sum.inr (ii,n1,n2,n3,c1,c2,c3,c4,P++r.map (dN t to),())):=by
 intro r
 induction r with
 | nil=>
  intro P f hP hf
  obtain⟨f,rfl⟩:∃ m,f=m+1:=⟨f - 1,by omega⟩
  rw[aam] at hP
  rw[br]
  unfold jK
  dsimp only
  rw[aF (by omega)]
  rfl
 | cons q r ih=>
  intro P f hP hf
  obtain⟨f,rfl⟩:∃ m,f=m+1:=⟨f - 1,by simp at hf;omega⟩
  simp only[aaj] at hf hP
  have hg:(P++q::r)[P.length]? =some q:=by rw[Z0 (aa7 _),abl];rfl
  rw[br]
  generalize hag:(fun y=>iter f y jK)=again
  unfold jK
  dsimp only
  have hck:(decide (0≤(P.length:Int))&&decide ((P.length:Int)<((P++q::r).length:Int)))=true:=by
   rw[Zd];exact⟨abF (by omega),abF (by rw[aai,aaj];omega)⟩
  rw[aB (by omega),aQ hck,ZD,hg,abo,aC (n:=(P.length:Int)+1) (by omega) (by omega)]
  have hrec:=ih (P++[dN t to q]) f (by rw[aai,aap];omega) (by omega)
  rw[ZJ,ZJ,aai,aap] at hrec
  cases hb:(q.2.1==t) with
  | true=>
   have e:dN t to q=(q.1,to,q.2.2):=by unfold dN;rw[abO hb]
   have es:(P++q::r).set P.length (q.1,to,q.2.2)=P++([dN t to q]++r):=by
    rw[List.set_append_right _ _ (aa7 _),abl,e];rfl
   rw[abB,aQ hck,abo,es, ← hag]
   exact hrec
  | false=>
   have e:dN t to q=q:=by unfold dN;rw[abN (by rw[hb];simp)]
   rw[abA, ← hag]
   rw[e] at hrec
   rw[aat,e]
   exact hrec
theorem WA {β γ:Type} {X:Option (β ⊕ γ)} {k:γ→Option β} {s:γ} (h:X=some (Sum.inr s)):aR X k=k s:=by rw[h,aM]
def gO (t:List UInt8) (p:aa) (N2:List ah) (q:aa):aa:=
 if (!(p.2.1==[])&&((dN t p.2.1 q).1==p.2.1))=true then ((dN t p.2.1 q).1,(dN t p.2.1 q).2.1,(dN t p.2.1 q).2.2.1,N2) else dN t p.2.1 q
theorem Rg (t:List UInt8) (p:aa) (ii:Int) (n1 n2:List UInt8) (n3:Int) (N2:List ah) (len:Nat) (hl:len≤1000000):
 ∀ (r P:List aa) (f:Nat),P.length+r.length=len→r.length<f→(∀ q∈r,p.2.1≠[]→q.1=p.2.1→uZ q.2.2.2 p.2.2.2=some (N2,()))→
  iter (X:=ru) (β:=rq) f (t,ii,(len:Int),(P.length:Int),[],[],0,[],p.1,p.2.1,p.2.2.1.1,p.2.2.1.2,p.2.2.2,n1,n2,n3,P++r,()) nw=some (Sum.inr (ii,[],[],0,[],n1,n2,n3,P++r.map (gO t p N2),())):=by
 intro r
 induction r with
 | nil=>
  intro P f hP hf _
  obtain⟨f,rfl⟩:∃ m,f=m+1:=⟨f - 1,by omega⟩
  rw[aam] at hP
  rw[br]
  unfold nw
  dsimp only
  rw[aF (by omega)]
  rfl
 | cons q r ih=>
  intro P f hP hf hpour
  obtain⟨f,rfl⟩:∃ m,f=m+1:=⟨f - 1,by simp at hf;omega⟩
  simp only[aaj] at hf hP
  have hat:∀ z:aa,(P++z::r)[P.length]? =some z:=fun z=>by rw[Z0 (aa7 _),abl];rfl
  have hst:∀ z z':aa,(P++z::r).set P.length z'=P++z'::r:=fun z z'=>by rw[List.set_append_right _ _ (aa7 _),abl];rfl
  have hck:∀ z:aa,(decide (0≤(P.length:Int))&&decide ((P.length:Int)<((P++z::r).length:Int)))=true:=fun z=>by
   rw[Zd];exact⟨abF (by omega),abF (by rw[aai,aaj];omega)⟩
  have hrec:=ih (P++[gO t p N2 q]) f (by rw[aai,aap];omega) (by omega) (fun z hz=>hpour z (aax _ hz))
  rw[ZJ,ZJ,aai,aap] at hrec
  have hR:P++(gO t p N2 q::r.map (gO t p N2))=P++([gO t p N2 q]++r.map (gO t p N2)):=rfl
  rw[aat,hR, ← hrec,br]
  generalize hag:(fun y=>iter f y nw)=again
  unfold nw
  dsimp only
  rw[aB (by omega),aQ (hck q),ZD,hat q,abo]
  refine (WA (s:=(t,ii,(P.length:Int),(len:Int),(P.length:Int),[],[],0,[],p.1,p.2.1,p.2.2.1.1,p.2.2.1.2,p.2.2.2,n1,n2,n3,P++dN t p.2.1 q::r,())) ?_).trans ?_
  ·cases hb:(q.2.1==t) with
   | true=>
    rw[abB,aQ (hck q),abo,hst]
    unfold dN
    rw[abO hb]
   | false=>
    rw[abA]
    unfold dN
    rw[abN (by rw[hb];simp)]
  ·dsimp only
   rw[ZD,aC (n:=(P.length:Int)+1) (by omega) (by omega)]
   have hnat:((P.length:Nat):Int)+1=((P.length+1:Nat):Int):=by omega
   by_cases h0:p.2.1=[]
   ·have eg:gO t p N2 q=dN t p.2.1 q:=by unfold gO;rw[abN (by rw[h0];simp)]
    rw[show (p.2.1==[])=true by simpa using h0,Zo,abA,abo]
    dsimp only
    rw[abA,hnat,eg, ← hag]
    rfl
   ·rw[show (p.2.1==[])=false by simpa using h0,Zn,abB,aQ (hck _),hat,abo,abo]
    dsimp only
    cases h1:((dN t p.2.1 q).1==p.2.1) with
    | false=>
     have eg:gO t p N2 q=dN t p.2.1 q:=by unfold gO;rw[abN (by rw[h1];simp)]
     rw[abA,hnat,eg, ← hag]
     rfl
    | true=>
     have eg:gO t p N2 q=((dN t p.2.1 q).1,(dN t p.2.1 q).2.1,(dN t p.2.1 q).2.2.1,N2):=by
      unfold gO
      rw[abO (by rw[h1,show (p.2.1==[])=false by simpa using h0];rfl)]
     have hq1:q.1=p.2.1:=by
      have:=h1
      rw[zT] at this
      simpa using this
     have hp:=hpour q aay h0 hq1
     rw[← X7 t p.2.1 q] at hp
     rw[abB,aQ (hck _),abo,hp,abo,aQ (hck _),abo,hst,hnat,eg, ← hag]
     rfl
theorem Iv {a:an} (hf:rF a) (h:bV a=0) {i:Nat} (hi:i<a.2.2.2.length) {P1 P2:List aa} (hl1:P1.length=a.2.2.2.length) (hl2:P2.length=a.2.2.2.length) (hf1:∀ q∈P1,q.1.length≤9223372036854775807) (hf2:∀ q∈P2,q.1.length≤9223372036854775807) (he:P1.map eP=P2.map eP):
 ∃ x e,(Option.bind (dF P1 (i:Int) (w64 ((i:Int)+1))) fun r16=>
  Option.bind (cZ (a.1,a.2.1,a.2.2.1,r16.1)) fun r17=>
  bif r17.1 != 0 then
   some (([],[],0,[]),r17.1,())
  else
   some ((a.1,a.2.1,a.2.2.1,r16.1),0,()))=some (x,e,())∧
  (Option.bind (dF P2 (i:Int) (w64 ((i:Int)+1))) fun r15=>
    Option.bind (de (a.1,a.2.1,a.2.2.1,r15.1)) fun r16=>
    bif r16.1 != 0 then
     some (([],[],0,[]),r16.1,())
    else
     some ((a.1,a.2.1,a.2.2.1,r15.1),0,()))=some (x,e,())∧dB x:=by
 have hl:=(gX h).len
 have hdel:∀ P:List aa,P.length=a.2.2.2.length→dF P (i:Int) (w64 ((i:Int)+1))=some (P.take i++P.drop (i+1),()):=by
  intro P hP
  show Hh _ _ _=_
  unfold Hh
  rw[aC (n:=(i:Int)+1) (by omega) (by omega),show (i:Int)+1=((i+1:Nat):Int) by omega,show (decide (0≤(i:Int))&&(decide ((i:Int)≤((i+1:Nat):Int))&&(decide (((i+1:Nat):Int)≤(P.length:Int))&&decide (0<P.length))))=true by
   simp only[Zd,abG]
   omega]
  rw[abB,ZD,ZD]
 have hfx:∀ P:List aa,(∀ q∈P,q.1.length≤9223372036854775807)→rF (a.1,a.2.1,a.2.2.1,P.take i++P.drop (i+1)):=by
  intro P hP q hq
  rcases aau.1 hq with hq | hq
  ·exact hP q (List.mem_of_mem_take hq)
  ·exact hP q (aaD hq)
 have hee:(P1.take i++P1.drop (i+1)).map eP=(P2.take i++P2.drop (i+1)).map eP:=by
  rw[aar,aar,List.map_take,List.map_take,List.map_drop,List.map_drop,he]
 have had:bV (a.1,a.2.1,a.2.2.1,P1.take i++P1.drop (i+1))=bV (a.1,a.2.1,a.2.2.1,P2.take i++P2.drop (i+1)):=by
  rw[← SZ _ _ _ (P1.take i++P1.drop (i+1)),hee,SZ]
 rw[hdel P1 hl1,hdel P2 hl2,abo,abo]
 dsimp only
 rw[gz _ (hfx P1 hf1),gA _ (hfx P2 hf2),abo,abo]
 dsimp only
 rw[← had]
 by_cases h2:bV (a.1,a.2.1,a.2.2.1,P1.take i++P1.drop (i+1))=0
 ·have e1:=Xc h2
  have e2:=Xc (had.symm.trans h2)
  dsimp only at e1 e2
  have e3:P1.take i++P1.drop (i+1)=P2.take i++P2.drop (i+1):=by rw[← e1, ← e2,hee]
  rw[h2,show ((0:Int) != 0)=false from rfl,abA,abA, ← e3]
  exact⟨_,_,rfl,rfl,dB.of h2⟩
 ·rw[show (bV (a.1,a.2.1,a.2.2.1,P1.take i++P1.drop (i+1)) != 0)=true by simpa using h2,abB,abB]
  exact⟨_,_,rfl,rfl,dB.zero⟩
theorem Xh {a:an} (h:bV a=0):∀ p∈a.2.2.2,∀ c∈p.2.2.2,Gd c.2.2.2:=by
 intro p hp c hc
 have h1:=(uj h p hp).c c hc
 exact⟨h1.dec,h1.pl,(Yh h p hp).2 c hc⟩
theorem Yy {l:List aa} (hs:Asc (·.1) l) {k:Nat} {y p:aa} (hy:l[k]? =some y) (h0:p.2.1≠[]) (hk2:cn (fun x:aa=>x.1) p.2.1 l=some k) (hyl:y.1=p.2.1) {N1 N2:List ah} (g3:N1.map eC=N2.map eC) (t:List UInt8):
 ((l.set k (y.1,y.2.1,y.2.2.1,N1)).map (dN t p.2.1)).map eP=(l.map (gO t p N2)).map eP:=by
 have hkl:=(Z6.1 hy).1
 have huniq:∀ (n:Nat) (q:aa),l[n]? =some q→q.1=p.2.1→n=k:=by
  intro n q hq e
  have h1:=Hr hs hq e
  rw[hk2] at h1
  exact (Option.some.inj h1).symm
 apply ZV
 intro n
 rw[Z7,Z7,Z7,Z7]
 by_cases hn:n=k
 ·subst hn
  rw[aab hkl,hy]
  dsimp only[Option.map_some]
  congr 1
  have eg:gO t p N2 y=((dN t p.2.1 y).1,(dN t p.2.1 y).2.1,(dN t p.2.1 y).2.2.1,N2):=by
   unfold gO
   rw[abO (by rw[zT,hyl,show (p.2.1==[])=false by simpa using h0];simp)]
  rw[eg]
  unfold eP
  dsimp only
  have ec:(dN t p.2.1 (y.1,y.2.1,y.2.2.1,N1))=((dN t p.2.1 y).1,(dN t p.2.1 y).2.1,(dN t p.2.1 y).2.2.1,N1):=by
   unfold dN
   dsimp only
   split<;>rfl
  rw[ec]
  dsimp only
  rw[g3]
 ·rw[aaa (fun e=>hn e.symm)]
  cases hq:l[n]? with
  | none=>rfl
  | some q=>
   dsimp only[Option.map_some]
   have hc:(!(p.2.1==[])&&((dN t p.2.1 q).1==p.2.1))=false:=by
    have h9:((dN t p.2.1 q).1==p.2.1)=false:=by
     rw[zT,abx]
     exact fun e=>hn (huniq n q hq e)
    rw[h9,Ze]
   have eg:gO t p N2 q=dN t p.2.1 q:=by
    unfold gO
    rw[hc]
    rfl
   rw[eg]
theorem SD (a:an) (hf:rF a) (t:List UInt8):∃ x e,sF a t=some (x,e,())∧zf a t=some (x,e,())∧dB x:=by
 have vQ:maxLen=9223372036854775807:=rfl
 unfold sF zf
 rw[uS a hf,abo,gA a hf,abo]
 dsimp only
 by_cases h:bV a=0
 rotate_left
 ·rw[abO h,show (bV a != 0)=true by simpa using h,abB,abB]
  exact⟨_,_,rfl,rfl,dB.zero⟩
 rw[abN (by simpa using h),show (bV a != 0)=false by simpa using h,abA]
 have hok:=gX h
 have hl:=hok.len
 rw[fe a.2.2.2 t (by omega),abo]
 dsimp only
 cases hT:cn (fun x:aa=>x.1) t a.2.2.2 with
 | none=>exact⟨_,_,rfl,rfl,dB.zero⟩
 | some i=>
 rw[show (Option.isSome (some i))=true from rfl,abO rfl,show ((0:Int) != 0)=false from rfl,abA]
 obtain⟨i',k1,k2⟩:=dK a t (by omega) hok.asc
 rw[k1,abo,k2 i hT]
 dsimp only
 obtain⟨p,hp,hpt⟩:=iR hT
 have hi:=(Z6.1 hp).1
 rw[show decide (ixI (some i)<0)=false from abD (by show ¬ (i:Int)<0;omega),abA,show ixI (some i)=(i:Int) from rfl,bq,hp,abo,abo]
 have hcl:=uA hl (uj h)
 have hcb:(decide (a.2.2.2.length*72≤140737488355328)&&decide (a.2.2.2.length≤maxLen))=true:=by rw[Zd];exact⟨abF (by omega),abF (by omega)⟩
 obtain⟨k',m1,m2⟩:=dK a p.2.1 (by omega) hok.asc
 have f13:=fun (L:List aa)=>WQ t p.2.1 (i:Int) a.1 a.2.1 a.2.2.1 [] [] 0 [] p.1 p.2.2.1.1 p.2.2.1.2 p.2.2.2 L.length
 by_cases h0:p.2.1=[]
 ·rw[show (p.2.1==[])=true by simpa using h0,abB,abo,abo]
  dsimp only
  by_cases hc:p.2.2.2.length=0
  rotate_left
  ·rw[aB (by omega),aB (by omega)]
   exact⟨_,_,rfl,rfl,dB.zero⟩
  ·rw[aF (by omega),aF (by omega),hcl,abo]
   dsimp only
   rw[show b6 (a.1,a.2.1,a.2.2.1,a.2.2.2) p.2.1=_ from m1,abo,Zo,abA,abo]
   dsimp only
   rw[abA,aM]
   dsimp only
   have h13:=f13 a.2.2.2 (by omega) a.2.2.2 [] (List.length t+(Int.natAbs (i:Int)+(Int.natAbs ((a.2.2.2.length:Int))+(Int.natAbs (0:Int)+(a.1.length+(a.2.1.length+(a.2.2.1.natAbs+(List.length ([]:List UInt8)+(List.length ([]:List UInt8)+(Int.natAbs (0:Int)+(List.length ([]:List aa)+(p.1.length+(p.2.1.length+(p.2.2.1.1.natAbs+(p.2.2.1.2.natAbs+(p.2.2.2.length+(a.2.2.2.length+2))))))))))))))))) (by simp) (by omega)
   rw[aaI,aaI,show ((([]:List aa).length:Nat):Int)=0 from rfl] at h13
   have h12:=Rg t p (i:Int) a.1 a.2.1 a.2.2.1 [] a.2.2.2.length (by omega) a.2.2.2 [] (List.length t+(Int.natAbs (i:Int)+(Int.natAbs ((a.2.2.2.length:Int))+(Int.natAbs (0:Int)+(List.length ([]:List UInt8)+(List.length ([]:List UInt8)+(Int.natAbs (0:Int)+(List.length ([]:List aa)+(p.1.length+(p.2.1.length+(p.2.2.1.1.natAbs+(p.2.2.1.2.natAbs+(p.2.2.2.length+(a.1.length+(a.2.1.length+(a.2.2.1.natAbs+(a.2.2.2.length+2))))))))))))))))) (by simp) (by omega) (fun q _ hn=>absurd h0 hn)
   rw[aaI,aaI,show ((([]:List aa).length:Nat):Int)=0 from rfl] at h12
   rw[h13,aM,aQ hcb,h12,aM]
   dsimp only
   have hg:a.2.2.2.map (gO t p [])=a.2.2.2.map (dN t p.2.1):=by
    apply aas
    intro q _
    unfold gO
    rw[abN (by rw[h0];simp)]
   rw[hg]
   have hfl:∀ q∈a.2.2.2.map (dN t p.2.1),q.1.length≤9223372036854775807:=fun q hq=>by
    obtain⟨q0,hq0,rfl⟩:=aaB.1 hq
    rw[zT];exact hf q0 hq0
   exact Iv hf h hi (by rw[aal]) (by rw[aal]) hfl hfl rfl
 ·rw[show (p.2.1==[])=false by simpa using h0,abA,abo,abo]
  dsimp only
  rw[abA,abA,hcl,abo]
  dsimp only
  obtain⟨_,k,hk1,hk2⟩ | hx:=Or.symm (Hw hok.n1 hp)
  rotate_left
  ·exact absurd hx.1 h0
  obtain⟨y,hy,hyl⟩:=iR hk2
  have hkl:=(Z6.1 hy).1
  rw[show b6 (a.1,a.2.1,a.2.2.1,a.2.2.2) p.2.1=_ from m1,abo,Zn,abB,abo]
  dsimp only
  rw[m2 k hk2,hk2,show (Option.isSome (some k))=true from rfl,abB]
  have hym:=aaC hy
  have hpm:=aaC hp
  obtain⟨N1,N2,g1,g2,g3⟩:=WX (M:=y.2.2.2) (cs:=p.2.2.2) (by have:=(uj h y hym).n;omega) (Xh h y hym) (TG (FI h y hym)) (by have:=(uj h p hpm).n;omega) (Xh h p hpm) (TG (FI h p hpm))
  have hck:(decide (0≤(k:Int))&&decide ((k:Int)<(a.2.2.2.length:Int)))=true:=by
   rw[Zd];exact⟨abF (by omega),abF (by omega)⟩
  have huniq:∀ (n:Nat) (q:aa),a.2.2.2[n]? =some q→q.1=p.2.1→n=k:=by
   intro n q hq e
   have h1:=Hr hok.asc hq e
   rw[hk2] at h1
   exact (Option.some.inj h1).symm
  rw[aQ hck,ZD,hy,abo,g1,abo,aQ hck,abo,aM]
  dsimp only
  have hL1:(a.2.2.2.set k (y.1,y.2.1,y.2.2.1,N1)).length=a.2.2.2.length:=by rw[aao]
  have h13:=f13 (a.2.2.2.set k (y.1,y.2.1,y.2.2.1,N1)) (by omega) (a.2.2.2.set k (y.1,y.2.1,y.2.2.1,N1)) [] (List.length t+(Int.natAbs (i:Int)+(Int.natAbs ((List.length (a.2.2.2.set k (y.1,y.2.1,y.2.2.1,N1)):Int))+(Int.natAbs (0:Int)+(a.1.length+(a.2.1.length+(a.2.2.1.natAbs+(List.length ([]:List UInt8)+(List.length ([]:List UInt8)+(Int.natAbs (0:Int)+(List.length ([]:List aa)+(p.1.length+(p.2.1.length+(p.2.2.1.1.natAbs+(p.2.2.1.2.natAbs+(p.2.2.2.length+(List.length (a.2.2.2.set k (y.1,y.2.1,y.2.2.1,N1))+2))))))))))))))))) (by simp) (by omega)
  rw[aaI,aaI,show ((([]:List aa).length:Nat):Int)=0 from rfl] at h13
  have h12:=Rg t p (i:Int) a.1 a.2.1 a.2.2.1 N2 a.2.2.2.length (by omega) a.2.2.2 [] (List.length t+(Int.natAbs (i:Int)+(Int.natAbs ((a.2.2.2.length:Int))+(Int.natAbs (0:Int)+(List.length ([]:List UInt8)+(List.length ([]:List UInt8)+(Int.natAbs (0:Int)+(List.length ([]:List aa)+(p.1.length+(p.2.1.length+(p.2.2.1.1.natAbs+(p.2.2.1.2.natAbs+(p.2.2.2.length+(a.1.length+(a.2.1.length+(a.2.2.1.natAbs+(a.2.2.2.length+2))))))))))))))))) (by simp) (by omega) (fun q hq _ e=>by
   obtain⟨n,hn⟩:=aaA.1 hq
   have:=huniq n q hn e
   subst this
   rw[hy] at hn
   rw[← Option.some.inj hn];exact g2)
  rw[aaI,aaI,show ((([]:List aa).length:Nat):Int)=0 from rfl] at h12
  rw[h13,aM,aQ hcb,h12,aM]
  dsimp only
  refine Iv hf h hi (by rw[aal,aao]) (by rw[aal]) ?_ ?_ ?_
  ·intro q hq
   obtain⟨q0,hq0,rfl⟩:=aaB.1 hq
   rw[zT]
   rcases aaE hq0 with hq | hq
   ·exact hf q0 hq
   ·rw[hq];exact hf y hym
  ·intro q hq
   obtain⟨q0,hq0,rfl⟩:=aaB.1 hq
   have:(gO t p N2 q0).1=q0.1:=by
    unfold gO
    split
    ·exact zT ..
    ·exact zT ..
   rw[this];exact hf q0 hq0
  ·exact Yy hok.asc hy h0 hk2 hyl g3 t
theorem QW:Gg=some (true,()):=by kernel_rfl
theorem law_ParcelMovesMatchSpec (a b:an) (t to:List UInt8) (hfa:rF a) (hfb:rF b):gI a b t to=some (true,()):=by
 unfold gI
 obtain⟨x1,e1,p1,r1,s1⟩:=Uk a hfa t to
 obtain⟨x2,e2,p2,r2,s2⟩:=SD a hfa t
 obtain⟨x3,e3,p3,r3,s3⟩:=Sl a b hfa hfb
 rw[p1,r1,abo,abo]
 dsimp only
 rw[show (e1 != e1)=false by simp,abA,s1.same,abo]
 dsimp only
 rw[Zo,abA,p2,r2,abo,abo]
 dsimp only
 rw[show (e2 != e2)=false by simp,abA,s2.same,abo]
 dsimp only
 rw[Zo,abA,p3,r3,abo,abo]
 dsimp only
 rw[show (e3==e3)=true by simp,abB,s3.same,abo]
 dsimp only
 rw[abB,QW]
 rfl
end Go.Md
