/-
  Plain facts: what is in parcels; the plain law is true of all data. No condition.
-/
import Derived.Test.YtfeonoiibclkiaaGreatDoorYo
import Derived.Test.YtfeonoiibclkiaaGreatDoorYu
set_option linter.all false
set_option linter.all false
set_option maxRecDepth 20000
namespace Go.Md
open Go.Dn
abbrev Tw:Type:=List UInt8×List UInt8
theorem zU (a b:Tw):Ty.beq aI a b=decide (a=b):=by
 show (Fi a.1 b.1&&Fi a.2 b.2)=_
 by_cases h1:a.1=b.1
 ·by_cases h2:a.2=b.2
  ·rw[U8 (Prod.ext h1 h2)]
   simp[Fi,h1,h2]
  ·rw[U7 (fun e=>h2 (by rw[e]))]
   simp[Fi,h2]
 ·rw[U7 (fun e=>h1 (by rw[e]))]
  simp[Fi,h1]
def toW (p:Tw×Int):Tw×an:=(p.1,W p.2)
def jS (k:Tw):List (Tw×Int)→Option Int
 | []=>none
 | p::r=>if k=p.1 then some p.2 else jS k r
def gT (k:Tw) (z:Int):List (Tw×Int)→List (Tw×Int)
 | []=>[(k,z)]
 | p::r=>if k=p.1 then (k,p.2+z)::r else p::gT k z r
theorem OY (k:Tw):∀ S:List (Tw×Int),bV (k:=aI) (v:=aD) (S.map toW) k=(jS k S).map W
 | []=>rfl
 | p::r=>by
  refine (@OZ aI aD (toW p) (r.map toW) k).trans ?_
  have ih:=OY k r
  simp only[jS]
  by_cases h:k=p.1
  ·rw[Vg h,show Ty.beq aI k (toW p).1=true from (zU _ _).trans (U8 h)];rfl
  ·rw[Vf h,show Ty.beq aI k (toW p).1=false from (zU _ _).trans (U7 h),U4];exact ih
theorem IV (k:Tw) (z:Int):∀ (S:List (Tw×Int)) (b:Int),jS k S=some b→gU (k:=aI) (v:=aD) (S.map toW) k (W (b+z))=(gT k z S).map toW
 | p::r,b,h=>by
  refine (@IT aI aD (toW p) (r.map toW) k _).trans ?_
  simp only[jS] at h
  simp only[gT]
  by_cases e:k=p.1
  ·rw[Vg e] at h
   cases h
   rw[Vg e,show Ty.beq aI k (toW p).1=true from (zU _ _).trans (U8 e)];rfl
  ·rw[Vf e] at h
   rw[Vf e,show Ty.beq aI k (toW p).1=false from (zU _ _).trans (U7 e),U4,IV k z r b h]
   rfl
theorem IU (k:Tw) (z:Int):∀ (S:List (Tw×Int)),jS k S=none→gU (k:=aI) (v:=aD) (S.map toW) k (W z)=(gT k z S).map toW
 | [],_=>rfl
 | p::r,h=>by
  refine (@IT aI aD (toW p) (r.map toW) k _).trans ?_
  simp only[jS] at h
  simp only[gT]
  by_cases e:k=p.1
  ·rw[Vg e] at h;cases h
  ·rw[Vf e] at h
   rw[Vf e,show Ty.beq aI k (toW p).1=false from (zU _ _).trans (U7 e),U4,IU k z r h]
   rfl
theorem OX (k:Tw) (S:List (Tw×Int)) (M:List (Tw×an)) (hM:M=S.map toW):bV (k:=aI) (v:=aD) M k=(jS k S).map W:=by
 subst hM;exact OY k S
theorem NI (k:Tw) (z:Int) (S:List (Tw×Int)) (M:List (Tw×an)) (hM:M=S.map toW) (b:Int) (h:jS k S=some b):gU (k:=aI) (v:=aD) M k (W (b+z))=(gT k z S).map toW:=by
 subst hM;exact IV k z S b h
theorem NH (k:Tw) (z:Int) (S:List (Tw×Int)) (M:List (Tw×an)) (hM:M=S.map toW) (h:jS k S=none):gU (k:=aI) (v:=aD) M k (W z)=(gT k z S).map toW:=by
 subst hM;exact IU k z S h
def M24:Nat:=10 ^ 24
def Sm (n:Nat) (S:List (Tw×Int)):Prop:=∀ p∈S,p.2.natAbs≤n*M24
theorem Sm.add {n:Nat} {S:List (Tw×Int)} (h:Sm n S) {k:Tw} {z:Int} (hz:z.natAbs≤10 ^ 24):Sm (n+1) (gT k z S):=by
 have hz:z.natAbs≤M24:=hz
 have e:(n+1)*M24=n*M24+M24:=by rw[Uq,UN]
 induction S with
 | nil=>
  intro p hp
  rcases Ua.1 hp with rfl
  show z.natAbs≤_
  rw[e];omega
 | cons q r ih=>
  have h1:=h q TZ
  intro p hp
  simp only[gT] at hp
  split at hp
  ·rcases TX.1 hp with rfl | hp
   ·show (q.2+z).natAbs≤_
    rw[e];omega
   ·have:=h p (TY _ hp)
    rw[e];omega
  ·rcases TX.1 hp with rfl | hp
   ·rw[e];omega
   ·exact ih (fun x hx=>h x (TY _ hx)) p hp
theorem Cv {k:Tw}:∀ {S:List (Tw×Int)} {b:Int},jS k S=some b→(k,b)∈S
 | p::r,b,h=>by
  simp only[jS] at h
  split at h
  ·rename_i e
   cases h
   rw[e];exact TZ
  ·exact TY _ (Cv h)
theorem Sm.le {n:Nat} {S:List (Tw×Int)} (h:Sm n S) (hn:n≤1000000) {p:Tw×Int} (hp:p∈S):p.2.natAbs≤10 ^ 30:=by
 have h1:=h p hp
 have h2:=UL M24 hn
 exact Uz h1 (Uz h2 (by unfold M24;decide))
theorem Nb {d:ak} (h:cN d):(v9 d).natAbs≤10 ^ 24:=N7 h
theorem M4 {d:ak} (h:cN d):fL d 9=some (W (v9 d),()):=by
 have h1:=h.1;have h2:=h.2
 exact Em d 9 (by omega) (by omega) (by omega) (by omega) (by omega)
theorem J3 {n:Nat} (h:n≤10 ^ 40):n<4294967296 ^ 99:=by
 refine UB h ?_
 exact UC (show 10 ^ 40<4294967296 ^ 5 by decide) (UP (by decide) (by decide))
theorem Mv {n:Nat} {S:List (Tw×Int)} (hS:Sm n S) (hn:n≤1000000) (k:Tw) {d:ak} (hd:cN d):gP (S.map toW) k d=some ((gT k (v9 d) S).map toW,()):=by
 have hv:=Nb hd
 obtain⟨M,hM⟩:∃ M:List (Tw×an),M=S.map toW:=⟨_,rfl⟩
 rw[← hM]
 have hg:=OX k S M hM
 have hs:=fun b h=>NI k (v9 d) S M hM b h
 have hs0:=NH k (v9 d) S M hM
 unfold gP
 rw[hg]
 cases h:jS k S with
 | none=>
  show (Option.bind (mB 0) fun r1=>Option.bind (fL d 9) fun r2=>Option.bind (gu r1.1 r2.1) fun r3=>some (gU (k:=aI) (v:=aD) M k r3.1,()))=_
  rw[p8 0 (by omega) (by omega),UT,M4 hd,UT]
  dsimp only
  rw[vp 0 _ (J3 (by omega)) (J3 (by omega)),UT]
  dsimp only
  rw[Int.zero_add,hs0 h]
  rfl
 | some b=>
  have hb:=hS.le hn (Cv h)
  show (Option.bind (fL d 9) fun r4=>Option.bind (gu (W b) r4.1) fun r5=>some (gU (k:=aI) (v:=aD) M k r5.1,()))=_
  rw[M4 hd,UT]
  dsimp only
  rw[vp b _ (J3 (by omega)) (J3 (by omega)),UT]
  dsimp only
  rw[hs b h]
  rfl
theorem BK (k:Tw) (z:Int):∀ S:List (Tw×Int),(∀ p,p∈gT k z S→p.1=k∨∃ q∈S,q.1=p.1)
 | [],p,hp=>by rcases Ua.1 hp with rfl;exact .inl rfl
 | q::r,p,hp=>by
  simp only[gT] at hp
  split at hp
  ·rcases TX.1 hp with rfl | hp
   ·exact .inl rfl
   ·exact .inr ⟨p,TY _ hp,rfl⟩
  ·rcases TX.1 hp with rfl | hp
   ·exact .inr ⟨p,TZ,rfl⟩
   ·rcases BK k z r p hp with h | ⟨x,hx,h⟩
    ·exact .inl h
    ·exact .inr ⟨x,TY _ hx,h⟩
theorem Mz (k:Tw) (z:Int):∀ S:List (Tw×Int),(S.map (·.1)).Nodup→((gT k z S).map (·.1)).Nodup
 | [],_=>by simp[gT]
 | q::r,h=>by
  rw[TU,Ud] at h
  simp only[gT]
  split
  ·rename_i e
   rw[TU,Ud,e];exact h
  ·rename_i e
   rw[TU,Ud]
   refine⟨fun hm=> ?_,Mz k z r h.2⟩
   obtain⟨p,hp,e1⟩:=T4.1 hm
   rcases BK k z r p hp with h1 | ⟨x,hx,h1⟩
   ·exact e (by rw[← h1,e1])
   ·exact h.1 (T4.2 ⟨x,hx,h1.trans e1⟩)
def gX (S:List (Tw×Int)):Int:=(S.map (·.2)).sum
theorem J7 (k:Tw) (z:Int):∀ S:List (Tw×Int),gX (gT k z S)=gX S+z
 | []=>by simp[gT,gX]
 | q::r=>by
  have ih:=J7 k z r
  unfold gX at*
  simp only[gT]
  split
  ·simp only[TU,Uj];omega
  ·simp only[TU,Uj,ih];omega
theorem J6 (k:Tw) (z:Int):∀ S:List (Tw×Int),(gT k z S).length≤S.length+1
 | []=>by simp[gT]
 | q::r=>by
  have ih:=J6 k z r
  simp only[gT]
  split
  ·simp
  ·simp only[TN];omega
structure nj (n:Nat) (S:List (Tw×Int)):Prop where
 sm:Sm n S
 nd:(S.map (·.1)).Nodup
 st:∀ p∈S,p.1.1.length≤1000∧p.1.2.length≤1000
 len:S.length≤n
theorem nj.nil:nj 0 []:=⟨fun _ h=>(by cases h),List.nodup_nil,fun _ h=>(by cases h),Uy _⟩
theorem nj.add {n:Nat} {S:List (Tw×Int)} (h:nj n S) {k:Tw} {z:Int} (hz:z.natAbs≤10 ^ 24) (hk:k.1.length≤1000∧k.2.length≤1000):nj (n+1) (gT k z S):=
 ⟨h.sm.add hz,Mz k z S h.nd,fun p hp=>by
   rcases BK k z S p hp with e | ⟨q,hq,e⟩
   ·rw[e];exact hk
   ·rw[← e];exact h.st q hq,Uz (J6 k z S) (Nat.succ_le_succ h.len)⟩
theorem ML {s:List UInt8} (h:nP s=true):s.length≤1000:=by
 apply Decidable.byContradiction
 intro hc
 unfold nP at h
 have e:eL s=some (false,()):=by
  unfold eL
  rw[aT (by omega),aK (by omega)]
 rw[e] at h
 cases h
structure Nd (c:aX):Prop where
 d:cN c.2.2.2
 n1:c.1.length≤1000
 n2:c.2.1.length≤1000
def PE (l:List aa):Prop:=∀ p∈l,p.2.2.2.length≤100∧∀ c∈p.2.2.2,Nd c
theorem Kl {l:List aX} (h:wF l=0):∀ c∈l,Nd c:=by
 have hq:=(D6 h).2
 unfold wF at h
 split at h
 ·omega
 intro c hc
 have hd:=(hq c hc).dec
 obtain⟨i,hi⟩:=T3.1 hc
 have:=iC h i c hi
 unfold FG at this
 split at this
 ·omega
 rename_i h1
 split at this
 ·omega
 rename_i h2
 exact⟨hd,ML (by simpa using h1),ML (by simpa using h2)⟩
theorem H7 {a:aC} (h:cR a=0):PE a.2.2.2:=by
 intro p hp
 refine⟨(QO h p hp).n, ?_⟩
 unfold cR at h
 split at h
 ·omega
 split at h
 ·omega
 split at h
 ·omega
 split at h
 ·omega
 split at h
 ·omega
 have h3:dR (kN a.2.2.2) 0 a.2.2.2=0:=by omega
 obtain⟨i,hi⟩:=T3.1 hp
 have:=iC h3 i p hi
 unfold kN at this
 split at this
 ·omega
 split at this
 ·omega
 split at this
 ·omega
 exact Kl this
def ck (c:aX):Tw:=(c.1,c.2.1)
def tq (S:List (Tw×Int)) (cs:List aX):List (Tw×Int):=cs.foldl (fun S c=>gT (ck c) (v9 c.2.2.2) S) S
theorem Px (S:List (Tw×Int)) (cs:List aX) (c:aX):tq S (cs++[c])=gT (ck c) (v9 c.2.2.2) (tq S cs):=by
 unfold tq;rw[List.foldl_append];rfl
theorem nj.Qm {n:Nat} {S:List (Tw×Int)} (h:nj n S):∀ cs:List aX,(∀ c∈cs,Nd c)→nj (n+cs.length) (tq S cs):=by
 intro cs
 induction cs generalizing n S with
 | nil=>intro _;exact h
 | cons c r ih=>
  intro hc
  have h1:=hc c TZ
  have:=ih (h.add (k:=ck c) (Nb h1.d) ⟨h1.n1,h1.n2⟩) (fun x hx=>hc x (TY _ hx))
  rw[TN,show n+(r.length+1)=n+1+r.length by omega]
  exact this
def N8 (cs:List aX):Int:=(cs.map fun c=>v9 c.2.2.2).sum
theorem Lu:∀ (cs:List aX) (S:List (Tw×Int)),gX (tq S cs)=gX S+N8 cs
 | [],S=>by simp[tq,N8]
 | c::r,S=>by
  show gX (tq (gT (ck c) (v9 c.2.2.2) S) r)=_
  rw[Lu r,J7]
  simp only[N8,TU,Uj]
  omega
end Go.Md
set_option linter.all false
set_option maxRecDepth 20000
namespace Go.Md
open Go.Dn
theorem CW {a b:Tw}:fe a b<0↔Op.bytesLess a.1 b.1=true∨(a.1=b.1∧Op.bytesLess a.2 b.2=true):=by
 unfold fe
 by_cases h:Lib.compareBytes a.1 b.1=0
 ·rw[show (Lib.compareBytes a.1 b.1==0)=true by simpa using h,U5,sI]
  have e:=um.1 h
  constructor
  ·intro h2;exact .inr ⟨e,h2⟩
  ·rintro (h2 | ⟨_,h2⟩)
   ·rw[e,fm] at h2;cases h2
   ·exact h2
 ·rw[show (Lib.compareBytes a.1 b.1==0)=false by simpa using h,U4,sI]
  constructor
  ·exact .inl
  ·rintro (h2 | ⟨e,_⟩)
   ·exact h2
   ·exact absurd (um.2 e) h
theorem Jd (a b:Tw):fe a b<0∨a=b∨fe b a<0:=by
 rw[CW,CW]
 rcases BW a.1 b.1 with h | h | h
 ·exact .inl (.inl h)
 ·rcases BW a.2 b.2 with g | g | g
  ·exact .inl (.inr ⟨h,g⟩)
  ·exact .inr (.inl (Prod.ext h g))
  ·exact .inr (.inr (.inr ⟨h.symm,g⟩))
 ·exact .inr (.inr (.inl h))
theorem PU {n:Nat} {S:List (Tw×Int)} (h:nj n S) (hn:n≤1000000):we fe (S.map toW)=true:=by
 have e:(S.map toW).map (·.1)=S.map (·.1):=by rw[TV];rfl
 have h1:=h.len
 unfold we
 rw[e]
 simp only[Sx,U9,TO,S9,SJ]
 refine⟨by omega,fun p hp=> ?_,h.nd,fun x _ y _=> ?_⟩
 ·obtain⟨q,hq,rfl⟩:=T4.1 hp
  have:=h.st q hq
  show q.1.1.length≤_∧q.1.2.length≤_
  omega
 ·rcases Jd x y with h | h | h
  ·exact .inl h
  ·exact .inr (.inr h)
  ·exact .inr (.inl h)
def ksS (S:List (Tw×Int)):List Tw:=(S.map (·.1)).mergeSort fun x y=> !decide (fe y x<0)
theorem Rh (S:List (Tw×Int)):jR fe (S.map toW)=ksS S:=by
 have e:(S.map toW).map (·.1)=S.map (·.1):=by rw[TV];rfl
 unfold jR ksS
 rw[e]
theorem KS (S:List (Tw×Int)):(ksS S).Perm (S.map (·.1)):=Ub _ _
def pI (S:List (Tw×Int)) (k:Tw):Int:=(jS k S).getD 0
theorem KY {S:List (Tw×Int)} (hnd:(S.map (·.1)).Nodup) {p:Tw×Int} (hp:p∈S):jS p.1 S=some p.2:=by
 induction S with
 | nil=>cases hp
 | cons q r ih=>
  rw[TU,Ud] at hnd
  simp only[jS]
  rcases TX.1 hp with rfl | hp
  ·rw[Vg rfl]
  ·rw[Vf (fun e=>hnd.1 (T4.2 ⟨p,hp,e⟩))]
   exact ih hnd.2 hp
def okD (z:Int):Bool:=decide ((few 9 z).1.natAbs≤1000000000000000)
def rM (S:List (Tw×Int)):List Tw→Option (List bh)
 | []=>some []
 | k::r=>if okD (pI S k)=true then (rM S r).map fun l=>if (few 9 (pI S k)).1=0 then l else (k.1,k.2,qD (pI S k))::l else none
def kE (S:List (Tw×Int)):List bh×Int:=match rM S (ksS S) with
 | some l=>(l,0)
 | none=>([],1)
theorem QN {z:Int} (h:z.natAbs≤10 ^ 30):Le 42 z:=Uz h (by decide)
theorem Rf {n:Nat} {S:List (Tw×Int)} (h:nj n S) (hn:n≤1000000) {M:List (Tw×an)} (hM:M=S.map toW) (ks:List Tw) (hks:ks.length≤1000000) (hsub:∀ k∈ks,∃ z,jS k S=some z):
 ∀ (r:List Tw) (i f:Nat) (acc:List bh),ks.drop i=r→i≤ks.length→r.length<f→acc.length≤i→
 iter (X:=ir) (β:=iq) f (acc,(ks.length:Int),(i:Int),ks,M,()) fJ=
  some (match rM S r with | some l=>Sum.inr (acc++l,M,()) | none=>Sum.inl ([],1,M,())):=by
 have Rg:maxLen=9223372036854775807:=rfl
 intro r
 induction r with
 | nil=>
  intro i f acc hdr hi hf ha
  have:i=ks.length:=by
   have:=congrArg List.length hdr
   simp at this;omega
  subst this
  obtain⟨f,rfl⟩:∃ m,f=m+1:=⟨f - 1,by omega⟩
  rw[iH]
  unfold fJ
  dsimp only
  rw[aT (by omega)]
  simp only[rM,List.append_nil]
 | cons k r ih=>
  intro i f acc hdr hi hf ha
  have hki:ks[i]? =some k:=by
   have:=congrArg (·[0]?) hdr
   simpa [Tz] using this
  have hr':ks.drop (i+1)=r:=by
   have:=congrArg List.tail hdr
   simpa [List.tail_drop] using this
  have hlt:=(TC.1 hki).1
  obtain⟨z,hz⟩:=hsub k (T6 hki)
  have hv:pI S k=z:=by unfold pI;rw[hz];rfl
  have hzb:=h.sm.le hn (Cv hz)
  obtain⟨f,rfl⟩:∃ m,f=m+1:=⟨f - 1,by simp at hf;omega⟩
  simp only[TN] at hf
  have hg:Option.getD (α:=an) (bV (k:=aI) (v:=aD) M k) (false,[])=W z:=by
   rw[OX k S M hM,hz];rfl
  rw[iH]
  generalize hag:(fun y=>iter f y fJ)=again
  unfold fJ
  dsimp only
  rw[aK (by omega),bq (by simp only[Sx,U9];omega),S7,hki,UT,hg,H6 (QN hzb),UT]
  simp only[rM]
  rw[hv]
  by_cases hok:(few 9 z).1.natAbs≤1000000000000000
  ·rw[Vg hok,Vg (show okD z=true from U8 hok)]
   dsimp only
   rw[show ((0:Int) != 0)=false from rfl,U4,aB (n:=(i:Int)+1) (by omega) (by omega), ← hag,show (i:Int)+1=((i+1:Nat):Int) by omega]
   have ht:(qD z).1=(few 9 z).1:=rfl
   rw[ht]
   by_cases h0:(few 9 z).1=0
   ·rw[h0,show ((0:Int) != 0)=false from rfl,U4]
    refine (ih (i+1) f acc hr' (by omega) (by omega) (by omega)).trans ?_
    cases rM S r with
    | none=>rfl
    | some l=>rfl
   ·rw[show ((few 9 z).1 != 0)=true by simpa using h0,U5,bq (by rw[Sx];exact⟨U8 (by omega),U8 (by omega)⟩)]
    refine (ih (i+1) f _ hr' (by omega) (by omega) (by simp;omega)).trans ?_
    cases rM S r with
    | none=>rfl
    | some l=>
     show some (Sum.inr ((acc++[(k.1,k.2,qD z)])++l,M,()))=some (Sum.inr (acc++(if (few 9 z).1=0 then l else (k.1,k.2,qD z)::l),M,()))
     rw[Vf h0,Tc]
     rfl
  ·rw[Vf hok,Vf (show ¬okD z=true from fun e=>hok (Vl e))]
   rfl
theorem Nw {n:Nat} {S:List (Tw×Int)} (h:nj n S) (hn:n≤1000000):oN (S.map toW)=some ((kE S).1,(kE S).2,S.map toW,()):=by
 have hk:=PU h hn
 have he:=Rh S
 have hp:=KS S
 have hl:=h.len
 have hkl:(ksS S).length≤1000000:=by rw[hp.length_eq,TO];omega
 obtain⟨M,hM⟩:∃ M:List (Tw×an),M=S.map toW:=⟨_,rfl⟩
 rw[← hM] at hk he ⊢
 unfold oN
 rw[bq hk,he]
 have loop:=Rf h hn hM (ksS S) hkl (fun k hk=>by
  obtain⟨p,hp',rfl⟩:=T4.1 (hp.mem_iff.1 hk)
  exact⟨_,KY h.nd hp'⟩) (ksS S) 0
 have loop':∀ f,(ksS S).length<f→iter (X:=ir) (β:=iq) f ([],((ksS S).length:Int),0,ksS S,M,()) fJ=_:=fun f hf=>loop f [] rfl (US _) hf (Uy _)
 rw[loop' _ (by rw[Int.natAbs_natCast];omega)]
 unfold kE
 cases rM S (ksS S) with
 | none=>rfl
 | some l=>rfl
theorem Qz {n:Nat} {S:List (Tw×Int)} (hS:nj n S) (hn:n+100≤1000000) (t:List UInt8) (l l2:List aa) (c1 c2:Int) (a1 a2:List UInt8) (a3:Int) (cs:List aX) (hcs:cs.length≤100) (hc:∀ c∈cs,Nd c) (f:Nat) (hf:cs.length<f) {M:List (Tw×an)} (hM:M=S.map toW) {M':List (Tw×an)} (hM':M'=(tq S cs).map toW):
 iter (X:=ij) (β:=kP) f (t,l,c1,c2,cs,(cs.length:Int),0,a1,a2,a3,l2,M,()) kO=some (Sum.inr (t,l,c1,c2,a1,a2,a3,l2,M',())):=by
 refine bM (Inv:=fun i X=>∃ M1,M1=(tq S (cs.take i)).map toW∧X=((t,l,c1,c2,cs,(cs.length:Int),(i:Int),a1,a2,a3,l2,M1,()):ij)) cs.length (fun r=>r=some (Sum.inr (t,l,c1,c2,a1,a2,a3,l2,M',()))) ?_ ?_ f 0 _ ⟨M,hM,rfl⟩ (by omega) (by omega)
 ·rintro i _ again hi ⟨M1,hM1,rfl⟩ ih
  have hy:cs[i]? =some cs[i]:=au hi
  have hm:cs[i]∈cs:=TL hi
  have ets:cs.take (i+1)=cs.take i++[cs[i]]:=by rw[List.take_succ,hy];rfl
  have hSi:nj (n+(cs.take i).length) (tq S (cs.take i)):=hS.Qm _ fun c hc'=>hc c (T7 hc')
  have hti:(cs.take i).length≤100:=by rw[TS];omega
  have hadd:=Mv hSi.sm (by omega) (ck cs[i]) (hc _ hm).d
  rw[← hM1] at hadd
  unfold kO
  dsimp only
  rw[aK (by omega),bD,hy,UT]
  refine (show _→_ from fun h=>h) ?_
  rw[show ((cs[i].1,cs[i].2.1):bA)=ck cs[i] from rfl,hadd,UT]
  dsimp only
  rw[aB (n:=(i:Int)+1) (by omega) (by omega)]
  exact ih _ ⟨_,by rw[ets,Px],rfl⟩
 ·rintro _ again ⟨M1,hM1,rfl⟩
  unfold kO
  dsimp only
  rw[aT (by omega)]
  rw[List.take_length] at hM1
  rw[hM1, ← hM']
def tu (B:Nat→Bool) (l:List aa):Nat→List (Tw×Int)
 | 0=>[]
 | i+1=>if B i=true then tq (tu B l i) ((l[i]?).map (·.2.2.2)).get! else tu B l i
theorem Dl {B:Nat→Bool} {l:List aa} (hl:PE l):∀ i,i≤l.length→nj (100*i) (tu B l i)
 | 0,_=>nj.nil
 | i+1,hi=>by
  have ih:=Dl (B:=B) hl i (by omega)
  have hy:l[i]? =some l[i]:=au (by omega)
  have hp:=hl l[i] (TL (by omega))
  simp only[tu]
  split
  ·rw[hy]
   have:=ih.Qm l[i].2.2.2 hp.2
   exact⟨fun p h=>Uz (this.sm p h) (UL _ (by omega)),this.nd,this.st,by have:=this.len;show (tq _ l[i].2.2.2).length≤_;omega⟩
  ·exact⟨fun p h=>Uz (ih.sm p h) (UL _ (by omega)),ih.nd,ih.st,by have:=ih.len;omega⟩
theorem Q5 {a:aC} (hl:a.2.2.2.length≤500) (hp:PE a.2.2.2) (t:List UInt8) (B:Nat→Bool) (hB:∀ i,i<a.2.2.2.length→gp a (i:Int) t=some (B i,())) {M':List (Tw×an)} (hM':M'=(tu B a.2.2.2 a.2.2.2.length).map toW) (f:Nat) (hf:a.2.2.2.length<f):
 iter (X:=iS) (β:=l7) f (t,a.2.2.2,(a.2.2.2.length:Int),0,a.1,a.2.1,a.2.2.1,a.2.2.2,[],()) l6=some (Sum.inr (M',())):=by
 refine bM (Inv:=fun i X=>∃ M1,M1=(tu B a.2.2.2 i).map toW∧X=((t,a.2.2.2,(a.2.2.2.length:Int),(i:Int),a.1,a.2.1,a.2.2.1,a.2.2.2,M1,()):iS)) a.2.2.2.length (fun r=>r=some (Sum.inr (M',()))) ?_ ?_ f 0 _ ⟨[],rfl,rfl⟩ (by omega) (by omega)
 ·rintro i _ again hi ⟨M1,hM1,rfl⟩ ih
  have hy:a.2.2.2[i]? =some a.2.2.2[i]:=au hi
  have hpi:=hp a.2.2.2[i] (TL hi)
  have hSi:=Dl (B:=B) hp i (by omega)
  have hBi:gp (a.1,a.2.1,a.2.2.1,a.2.2.2) (i:Int) t=some (B i,()):=hB i hi
  unfold l6
  dsimp only
  rw[aK (by omega),bD,hy,UT,hBi,UT]
  dsimp only
  cases hb:B i with
  | false=>
   rw[Bool.not_false,U5,aB (n:=(i:Int)+1) (by omega) (by omega)]
   refine ih _ ⟨M1, ?_,rfl⟩
   rw[hM1]
   simp only[tu]
   rw[hb];rfl
  | true=>
   rw[SG,U4]
   obtain⟨M2,hM2⟩:∃ M2:List (Tw×an),M2=(tq (tu B a.2.2.2 i) a.2.2.2[i].2.2.2).map toW:=⟨_,rfl⟩
   have h2:=fun (f:Nat) (hf:a.2.2.2[i].2.2.2.length<f)=>Qz hSi (by omega) t a.2.2.2 a.2.2.2 (a.2.2.2.length:Int) (i:Int) a.1 a.2.1 a.2.2.1 a.2.2.2[i].2.2.2 hpi.1 hpi.2 f hf hM1 hM2
   rw[h2 _ (UA _ (UA _ (UA _ (UA _ (Nat.lt_add_of_pos_right (by with_reducible repeat (first | exact Nat.zero_lt_two | refine UA _ ?_))))))),aS]
   dsimp only
   rw[aB (n:=(i:Int)+1) (by omega) (by omega)]
   refine ih _ ⟨M2, ?_,rfl⟩
   rw[hM2]
   simp only[tu]
   rw[hb,hy];rfl
 ·rintro _ again ⟨M1,hM1,rfl⟩
  unfold l6
  dsimp only
  rw[aT (by omega)]
  rw[hM1, ← hM']
theorem LK {a:aC} (hok:Fo a) {t:List UInt8} (ht:t=[]∨(dF (fun x:aa=>x.1) t a.2.2.2).isSome=true):∀ i,i<a.2.2.2.length→gp a (i:Int) t=some (wD a.2.2.2 t i,()):=fun i hi=>by
 by_cases h0:t=[]
 ·subst h0;rfl
 ·cases hT:dF (fun x:aa=>x.1) t a.2.2.2 with
  | none=>rw[hT] at ht;simp[h0] at ht
  | some T=>rw[Kb hok hi h0 hT];unfold wD;rw[Vf h0,hT]
def fR (l:List aa) (t:List UInt8):List (Tw×Int):=tu (wD l t) l l.length
noncomputable def Ii (a:aC) (t:List UInt8):List bh×Int:=if cR a≠0 then ([],cR a) else if t=[]∨(dF (fun x:aa=>x.1) t a.2.2.2).isSome=true then kE (fR a.2.2.2 t) else ([],9)
theorem w6 (a:aC) (hf:zX a) (t:List UInt8):jF a t=some ((Ii a t).1,(Ii a t).2,()):=by
 unfold jF Ii
 by_cases h:cR a=0
 rotate_left
 ·rw[Vg h]
  unfold cZ
  rw[kZ a hf,UT]
  dsimp only
  rw[show (cR a != 0)=true by simpa using h,U5,UT]
  dsimp only
  rw[show (cR a != 0)=true by simpa using h,U5]
 rw[Vf (by simpa using h),Gj a hf h t,UT]
 dsimp only
 have hok:=fK h
 by_cases ht:t=[]∨(dF (fun x:aa=>x.1) t a.2.2.2).isSome=true
 rotate_left
 ·rw[Vf ht,Vf ht];rfl
 rw[Vg ht,Vg ht,show ((0:Int) != 0)=false from rfl,U4]
 obtain⟨M,hM⟩:∃ M:List (Tw×an),M=(tu (wD a.2.2.2 t) a.2.2.2 a.2.2.2.length).map toW:=⟨_,rfl⟩
 have h2:=Q5 hok.len (H7 h) t (wD a.2.2.2 t) (LK hok ht) hM
 rw[h2 _ (UA _ (Nat.lt_add_of_pos_right (by with_reducible repeat (first | exact Nat.zero_lt_two | refine UA _ ?_)))),aS]
 dsimp only
 have hS:=Dl (B:=wD a.2.2.2 t) (H7 h) a.2.2.2.length (Uy _)
 have hl:=hok.len
 rw[hM,Nw hS (by omega),UT]
 rfl
end Go.Md
set_option linter.all false
set_option maxRecDepth 20000
namespace Go.Md
open Go.Dn
theorem PB {S:List (Tw×Int)} (hnd:(S.map (·.1)).Nodup):((S.map (·.1)).map (pI S)).sum=gX S:=by
 unfold gX
 rw[TV]
 congr 1
 refine TT fun p hp=> ?_
 show pI S p.1=p.2
 unfold pI
 rw[KY hnd hp];rfl
theorem Pb {a b:List Int} (h:a.Perm b):a.sum=b.sum:=by
 induction h with
 | nil=>rfl
 | cons x _ ih=>simp only[Uj,ih]
 | swap x y l=>simp only[Uj];omega
 | trans _ _ ih1 ih2=>exact ih1.trans ih2
theorem II (S:List (Tw×Int)):∀ (ks:List Tw) (L:List bh),rM S ks=some L→fH L=(ks.map (pI S)).sum∧(∀ x∈L,cN x.2.2)∧L.length≤ks.length
 | [],L,h=>by cases h;exact⟨rfl,fun x hx=>(by cases hx),Uy _⟩
 | k::r,L,h=>by
  simp only[rM] at h
  split at h
  ·rename_i hok
   cases hr:rM S r with
   | none=>rw[hr] at h;cases h
   | some l=>
    rw[hr] at h
    obtain⟨i1,i2,i3⟩:=II S r l hr
    have hL:L=if (few 9 (pI S k)).1=0 then l else (k.1,k.2,qD (pI S k))::l:=(Option.some.inj h).symm
    rw[hL,TU,Uj]
    by_cases h0:(few 9 (pI S k)).1=0
    ·rw[Vg h0]
     have hz:pI S k=0:=by
      have:=(C8 9 (pI S k)).2.1
      rw[h0,Int.zero_mul] at this
      exact this.symm
     rw[hz]
     exact⟨by omega,i2,by simp only[TN];omega⟩
    ·rw[Vf h0]
     refine⟨?_,fun x hx=> ?_,by simp only[TN];omega⟩
     ·show v9 (qD (pI S k))+fH l=_
      rw[Pz,i1]
     ·rcases TX.1 hx with rfl | hx
      ·exact Qh (Vl hok)
      ·exact i2 x hx
  ·cases h
theorem Hs {n:Nat} {S:List (Tw×Int)} (h:nj n S) (h0:(kE S).2=0):fH (kE S).1=gX S∧(∀ x∈(kE S).1,cN x.2.2)∧(kE S).1.length≤n:=by
 unfold kE at*
 cases hg:rM S (ksS S) with
 | none=>rw[hg] at h0;cases h0
 | some L=>
  obtain⟨i1,i2,i3⟩:=II S _ L hg
  have hp:=KS S
  refine⟨?_,i2, ?_⟩
  ·show fH L=_
   rw[i1,Pb (hp.map (pI S)),PB h.nd]
  ·show L.length≤n
   have h1:=h.len
   have h2:=hp.length_eq
   rw[TO] at h2
   omega
theorem F4 (S:List (Tw×Int)):(kE S).2=0∨(kE S).2=1:=by
 unfold kE
 cases rM S (ksS S) with
 | none=>exact .inr rfl
 | some L=>exact .inl rfl
theorem Lv (l:List fh) (hl:l.length≤100000) (h:∀ x∈l,cN x.2.2):Le 40 (fH l):=by
 have h1:=M7 l h
 have h2:l.length*K24≤100000*K24:=UL _ hl
 unfold Le
 have h3:100000*K24≤10 ^ 40:=by unfold K24;decide
 omega
theorem Iu (l:List fh) (hl:l.length≤100000) (h:∀ x∈l,cN x.2.2):uU l=some (N (fH l),()):=by
 unfold uU
 have loop:∀ f,l.length<f→∃ b1 b2,iter f ((l,(l.length:Int),(0:Int),false,([]:List Int),false,([]:List Int),()):nX) rX=some (Sum.inr (b1,b2,(N (fH l)).1,(N (fH l)).2,())):=by
  intro f hf
  refine bM (Inv:=fun i X=>∃ b1 b2,X=((l,(l.length:Int),(i:Int),b1,b2,(N (fH (l.take i))).1,(N (fH (l.take i))).2,()):nX)) l.length (fun r=>∃ b1 b2,r=some (Sum.inr (b1,b2,(N (fH l)).1,(N (fH l)).2,()))) ?_ ?_ f 0 _ ⟨false,[],rfl⟩ (by omega) (by omega)
  ·rintro i _ again hi ⟨b1,b2,rfl⟩ ih
   unfold rX
   dsimp only
   have hy:l[i]? =some l[i]:=au hi
   have hyq:=h _ (TL hi)
   generalize l[i]=y at hy hyq
   have s1:=Lv (l.take i) (by rw[TS];omega) fun x hx=>h x (T7 hx)
   have n1:=s1.n (by omega)
   have n2:=(N7 hyq).n (by omega)
   rw[aK (by omega),bD,hy,UT,Lj hyq,UT]
   dsimp only
   rw[show ((N (fH (l.take i))).1,(N (fH (l.take i))).2)=N (fH (l.take i)) from rfl,AL _ _ (by omega) (by omega),UT,aB (by omega) (by omega), ← Py hy]
   exact ih _ ⟨_,_,rfl⟩
  ·rintro _ again ⟨b1,b2,rfl⟩
   unfold rX
   dsimp only
   rw[aT (by omega),Um (Uy _)]
   exact⟨_,_,rfl⟩
 obtain⟨b1,b2,e⟩:=loop (List.length l+(Int.natAbs ((List.length l:Int))+(Int.natAbs (0:Int)+(List.length ([]:List Int)+(List.length ([]:List Int)+2))))) (by omega)
 rw[e,aS]
def fQ (f:Nat→Int):Nat→Int
 | 0=>0
 | k+1=>fQ f k+f k
theorem Lw (f g:Nat→Int):∀ n,fQ (fun i=>f i+g i) n=fQ f n+fQ g n
 | 0=>rfl
 | n+1=>by simp only[fQ,Lw f g n];omega
theorem oV {f g:Nat→Int}:∀ n,(∀ i,i<n→f i=g i)→fQ f n=fQ g n
 | 0,_=>rfl
 | n+1,h=>by simp only[fQ,oV n fun i hi=>h i (by omega),h n (by omega)]
theorem CR:∀ n,fQ (fun _=>0) n=0
 | 0=>rfl
 | n+1=>by simp only[fQ,CR n];rfl
theorem Ja (c:Nat→Int) (P:Nat→Nat→Bool) (O:Nat→Bool) (n:Nat):∀ m,fQ (fun r=>if O r=true then fQ (fun i=>if P r i=true then c i else 0) n else 0) m=fQ (fun i=>c i*fQ (fun r=>if (O r&&P r i)=true then 1 else 0) m) n
 | 0=>by
  simp only[fQ,Int.mul_zero]
  exact (CR n).symm
 | m+1=>by
  simp only[fQ]
  rw[Ja c P O n m]
  have:(if O m=true then fQ (fun i=>if P m i=true then c i else 0) n else 0)=fQ (fun i=>c i*(if (O m&&P m i)=true then 1 else 0)) n:=by
   cases O m with
   | false=>
    simp only[Bool.false_and,SA,Ve,Int.mul_zero]
    exact (CR n).symm
   | true=>
    simp only[SK,Vh]
    refine oV n fun i _=> ?_
    split
    ·omega
    ·omega
  rw[this, ← Lw]
  refine oV n fun i _=> ?_
  rw[SN]
theorem Lx (P:Nat→Bool) {r:Nat} (hr:P r=true) (hu:∀ r',P r'=true→r'=r):∀ n,fQ (fun i=>if P i=true then 1 else 0) n=if r<n then 1 else 0
 | 0=>by simp[fQ]
 | n+1=>by
  simp only[fQ]
  rw[Lx P hr hu n]
  by_cases h:n=r
  ·subst h
   rw[Vf (Nat.lt_irrefl _),Vg hr,Vg (UG _)];rfl
  ·have:¬P n=true:=fun e=>h (hu n e)
   rw[Vf this]
   by_cases h2:r<n
   ·rw[Vg h2,Vg (by omega)];rfl
   ·rw[Vf h2,Vf (by omega)];rfl
theorem M3 {l:List aa} (hnl:pL l):∀ (m i:Nat),(cq l i).length=m→i<l.length→∃ r,r<l.length∧r∈i::cq l i∧par l r=none∧∀ r',r'∈i::cq l i→par l r'=none→r'=r
 | 0,i,hm,hi=>by
  have h0:cq l i=[]:=List.length_eq_zero_iff.1 hm
  refine⟨i,hi,TZ, ?_,fun r' hr' _=> ?_⟩
  ·cases hp:par l i with
   | none=>rfl
   | some k=>rw[ya hnl hi hp] at h0;cases h0
  ·rw[h0] at hr';exact Ua.1 hr'
 | m+1,i,hm,hi=>by
  cases hp:par l i with
  | none=>rw[Ix hp] at hm;cases hm
  | some k=>
   have hs:=ya hnl hi hp
   have hk:k<l.length:=C2 (l:=l) (i:=i) (by rw[hs];exact TZ)
   rw[hs,TN] at hm
   obtain⟨r,r1,r2,r3,r4⟩:=M3 hnl m k (by omega) hk
   refine⟨r,r1,by rw[hs];exact TY _ r2,r3,fun r' hr' hn=> ?_⟩
   rcases TX.1 hr' with rfl | hr'
   ·rw[hp] at hn;cases hn
   ·rw[hs] at hr';exact r4 r' hr' hn
def cv (l:List aa) (i:Nat):Int:=N8 (((l[i]?).map (·.2.2.2)).get!)
theorem CS (B:Nat→Bool) (l:List aa):∀ k,gX (tu B l k)=fQ (fun i=>if B i=true then cv l i else 0) k
 | 0=>rfl
 | k+1=>by
  simp only[tu,fQ]
  rw[← CS B l k]
  split
  ·rw[Lu];rfl
  ·omega
def sS (l:List aa) (r:Nat):Bool:=(par l r).isNone
theorem QM {s:List UInt8} (h:lbl s=true):s≠[]:=fun e=>by
 unfold lbl at h
 simp only[Sx,U9] at h
 have:=h.1
 rw[e] at this;cases this
theorem OP {a:aC} (h:cR a=0):∀ p∈a.2.2.2,p.1≠[]:=by
 unfold cR at h
 split at h
 ·omega
 split at h
 ·omega
 split at h
 ·omega
 split at h
 ·omega
 split at h
 ·omega
 have h3:dR (kN a.2.2.2) 0 a.2.2.2=0:=by omega
 intro p hp
 obtain⟨i,hi⟩:=T3.1 hp
 have:=iC h3 i p hi
 unfold kN at this
 split at this
 ·omega
 rename_i h1
 exact QM (by simpa using h1)
theorem Qw {a:aC} (h:cR a=0) {r:Nat} (hr:r<a.2.2.2.length) (i:Nat):wD a.2.2.2 (lab a.2.2.2 r) i=decide (r∈i::cq a.2.2.2 i):=by
 have hok:=fK h
 have hp:a.2.2.2[r]? =some a.2.2.2[r]:=au hr
 have hne:=OP h _ (TL hr)
 have hT:=vZ (key:=fun x:aa=>x.1) hok.asc hp rfl
 unfold wD
 rw[oI hp,Vf hne,hT]
theorem O8 {a:aC} (h:cR a=0):fQ (fun r=>if sS a.2.2.2 r=true then gX (fR a.2.2.2 (lab a.2.2.2 r)) else 0) a.2.2.2.length=gX (fR a.2.2.2 []):=by
 have hok:=fK h
 have e1:fQ (fun r=>if sS a.2.2.2 r=true then gX (fR a.2.2.2 (lab a.2.2.2 r)) else 0) a.2.2.2.length=fQ (fun r=>if sS a.2.2.2 r=true then fQ (fun i=>if decide (r∈i::cq a.2.2.2 i)=true then cv a.2.2.2 i else 0) a.2.2.2.length else 0) a.2.2.2.length:=by
  refine oV _ fun r hr=> ?_
  split
  ·unfold fR
   rw[CS]
   refine oV _ fun i _=> ?_
   rw[Qw h hr]
  ·rfl
 rw[e1,Ja (cv a.2.2.2) (fun r i=>decide (r∈i::cq a.2.2.2 i)) (sS a.2.2.2)]
 unfold fR
 rw[CS]
 refine oV _ fun i hi=> ?_
 obtain⟨r,r1,r2,r3,r4⟩:=M3 hok.nl _ i rfl hi
 rw[Lx (fun r=>sS a.2.2.2 r&&decide (r∈i::cq a.2.2.2 i)) (r:=r) (by rw[Sx];exact⟨by unfold sS;rw[r3];rfl,U8 r2⟩) (fun r' hr'=>by
  rw[Sx] at hr'
  exact r4 r' (Vl hr'.2) (by unfold sS at hr';simpa using hr'.1)),Vg r1]
 show _=if wD a.2.2.2 [] i=true then _ else _
 rw[show wD a.2.2.2 [] i=true from rfl,Vg rfl,SS]
theorem NS (l:List aa) (i:Nat):((i::cq l i).map (lab l)).reverse=((cq l i).map (lab l)).reverse++[lab l i]:=by
 rw[TU,List.reverse_cons]
theorem R3 {a:aC} (hf:zX a) (h:cR a=0) {i:Nat} (hi:i<a.2.2.2.length) (all:List bh) (c1 c2:Int) (b:Bool) (ds:List Int) (x2:List UInt8) (x3 x4:Int) (x5:List aX) (R:List (List UInt8)) (hR:∀ s∈R,∃ T,T∈cq a.2.2.2 i∧s=lab a.2.2.2 T) (hRl:R.length≤500) (f:Nat) (hff:R.length<f):
 iter (X:=dc) (β:=dQ) f (all,a.2.2.2,c1,c2,R,(R.length:Int),0,a.1,a.2.1,a.2.2.1,a.2.2.2,b,ds,lab a.2.2.2 i,x2,x3,x4,x5,()) dP=some (Sum.inr (all,a.2.2.2,c1,c2,a.1,a.2.1,a.2.2.1,a.2.2.2,b,ds,())):=by
 have hok:=fK h
 have hl:=hok.len
 refine bM (Inv:=fun j X=>X=((all,a.2.2.2,c1,c2,R,(R.length:Int),(j:Int),a.1,a.2.1,a.2.2.1,a.2.2.2,b,ds,lab a.2.2.2 i,x2,x3,x4,x5,()):dc)) R.length (fun r=>r=some (Sum.inr (all,a.2.2.2,c1,c2,a.1,a.2.1,a.2.2.1,a.2.2.2,b,ds,()))) ?_ ?_ f 0 _ rfl (by omega) (by omega)
 ·rintro j _ again hj rfl ih
  have hy:R[j]? =some R[j]:=au hj
  obtain⟨T,hT,hs⟩:=hR _ (TL hj)
  have hTl:=C2 hT
  have hp:a.2.2.2[T]? =some a.2.2.2[T]:=au hTl
  have hix:=vZ (key:=fun x:aa=>x.1) hok.asc hp (t:=lab a.2.2.2 T) (oI hp).symm
  have hw:mN (a.1,a.2.1,a.2.2.1,a.2.2.2) R[j]=some (wIn a.2.2.2 T a.2.2.2.length,0,()):=by
   have:=Fb a hf R[j]
   rw[Vf (by simpa using h),hs,hix] at this
   rw[hs]
   exact this
  have hin:(wIn a.2.2.2 T a.2.2.2.length).any (fun o=>o==lab a.2.2.2 i)=true:=by
   rw[Tb]
   refine⟨lab a.2.2.2 i, ?_,by simp⟩
   unfold wIn
   exact T4.2 ⟨i,List.mem_filter.2 ⟨T9.2 hi,U8 hT⟩,rfl⟩
  have hwl:=Nc a.2.2.2 T a.2.2.2.length
  unfold dP
  dsimp only
  rw[aK (by omega),bD,hy,UT,hw,UT]
  dsimp only
  rw[show ((0:Int) != 0)=false from rfl,U4,vS _ _ (by omega),UT]
  dsimp only
  rw[hin,SG,U4,aB (n:=(j:Int)+1) (by omega) (by omega)]
  exact ih _ rfl
 ·rintro _ again rfl
  unfold dP
  dsimp only
  rw[aT (by omega)]
theorem PA {a:aC} (h:cR a=0) {i:Nat} (hi:i<a.2.2.2.length):Ii a (lab a.2.2.2 i)=kE (fR a.2.2.2 (lab a.2.2.2 i)):=by
 have hok:=fK h
 have hp:a.2.2.2[i]? =some a.2.2.2[i]:=au hi
 have hix:=vZ (key:=fun x:aa=>x.1) hok.asc hp (t:=lab a.2.2.2 i) (oI hp).symm
 unfold Ii
 rw[Vf (by simpa using h),Vg (.inr (by rw[hix];rfl))]
def gE (l:List aa) (k:Nat):Int:=fQ (fun r=>if sS l r=true then gX (fR l (lab l r)) else 0) k
theorem M9 {a:aC} (h:cR a=0) (t:List UInt8):nj 50000 (fR a.2.2.2 t):=by
 have hl:=(fK h).len
 have h1:=Dl (B:=wD a.2.2.2 t) (H7 h) a.2.2.2.length (Uy _)
 exact⟨fun p hp=>Uz (h1.sm p hp) (UL _ (by omega)),h1.nd,h1.st,Uz h1.len (by omega)⟩
theorem M8 {n:Nat} {S:List (Tw×Int)} (h:nj n S) (h0:(kE S).2=0) (hn:n≤100000):Le 40 (gX S):=by
 obtain⟨g1,g2,g3⟩:=Hs h h0
 rw[← g1]
 exact Lv _ (by omega) g2
theorem Rt {a:aC} (hf:zX a) (h:cR a=0) (all:List bh) (f:Nat) (hff:a.2.2.2.length<f):
 iter (X:=bZ) (β:=dw) f (all,a.2.2.2,(a.2.2.2.length:Int),0,a.1,a.2.1,a.2.2.1,a.2.2.2,false,[],()) dn=some (Sum.inl (true,()))∨
 (iter (X:=bZ) (β:=dw) f (all,a.2.2.2,(a.2.2.2.length:Int),0,a.1,a.2.1,a.2.2.1,a.2.2.2,false,[],()) dn=some (Sum.inr (all,(N (gE a.2.2.2 a.2.2.2.length)).1,(N (gE a.2.2.2 a.2.2.2.length)).2,()))∧(gE a.2.2.2 a.2.2.2.length).natAbs≤a.2.2.2.length*10 ^ 40):=by
 have hok:=fK h
 have hl:=hok.len
 refine bM (Inv:=fun i X=>X=((all,a.2.2.2,(a.2.2.2.length:Int),(i:Int),a.1,a.2.1,a.2.2.1,a.2.2.2,(N (gE a.2.2.2 i)).1,(N (gE a.2.2.2 i)).2,()):bZ)∧(gE a.2.2.2 i).natAbs≤i*10 ^ 40) a.2.2.2.length (fun r=>r=some (Sum.inl (true,()))∨(r=some (Sum.inr (all,(N (gE a.2.2.2 a.2.2.2.length)).1,(N (gE a.2.2.2 a.2.2.2.length)).2,()))∧(gE a.2.2.2 a.2.2.2.length).natAbs≤a.2.2.2.length*10 ^ 40)) ?_ ?_ f 0 _ ⟨rfl,by rw[Nat.zero_mul];exact Uy 0⟩ (by omega) (by omega)
 ·rintro i _ again hi ⟨rfl,hb⟩ ih
  have hp:a.2.2.2[i]? =some a.2.2.2[i]:=au hi
  have hlab:=oI hp
  have hpg:=MX hok.n1 hp
  have htot:jF (a.1,a.2.1,a.2.2.1,a.2.2.2) a.2.2.2[i].1=some ((kE (fR a.2.2.2 (lab a.2.2.2 i))).1,(kE (fR a.2.2.2 (lab a.2.2.2 i))).2,()):=by
   have:=w6 a hf a.2.2.2[i].1
   rw[← hlab,PA h hi] at this
   rw[← hlab]
   exact this
  have hpath:pV (a.1,a.2.1,a.2.2.1,a.2.2.2) a.2.2.2[i].1=some (((cq a.2.2.2 i).map (lab a.2.2.2)).reverse++[lab a.2.2.2 i],0,()):=by
   have hix:=vZ (key:=fun x:aa=>x.1) hok.asc hp rfl
   have:=HY a hf a.2.2.2[i].1
   rw[Vf (by simpa using h),hix] at this
   refine Eq.trans this ?_
   show some ((((i::cq a.2.2.2 i).map (lab a.2.2.2)).reverse,(0:Int),()):List (List UInt8)×Int×Unit)=_
   rw[NS]
  have hS:=M9 h (lab a.2.2.2 i)
  unfold dn
  dsimp only
  rw[aK (by omega),bD,hp,UT,htot,UT]
  dsimp only
  rcases F4 (fR a.2.2.2 (lab a.2.2.2 i)) with h0 | h0
  rotate_left
  ·rw[h0,show ((1:Int)==1)=true from rfl,U5,tT]
   exact .inl rfl
  rw[h0,show ((0:Int)==1)=false from rfl,U4,show ((0:Int) != 0)=false from rfl,U4]
  obtain⟨g1,g2,g3⟩:=Hs hS h0
  have hsl:=M8 hS h0 (by omega)
  have hsl':(gX (fR a.2.2.2 (lab a.2.2.2 i))).natAbs≤10 ^ 40:=hsl
  have e40:(i+1)*10 ^ 40=i*10 ^ 40+10 ^ 40:=by rw[Uq,UN]
  have hout:gE a.2.2.2 (i+1)=gE a.2.2.2 i+(if sS a.2.2.2 i=true then gX (fR a.2.2.2 (lab a.2.2.2 i)) else 0):=rfl
  have hPl:((cq a.2.2.2 i).map (lab a.2.2.2)).reverse.length=(cq a.2.2.2 i).length:=by rw[List.length_reverse,TO]
  have hal:=zZ hok.nl hi
  have rest:∀ (b:Bool) (ds:List Int),(b,ds)=N (gE a.2.2.2 (i+1))→(gE a.2.2.2 (i+1)).natAbs≤(i+1)*10 ^ 40→_:=fun b ds hbd hb2=>ih ((all,a.2.2.2,(a.2.2.2.length:Int),((i+1:Nat):Int),a.1,a.2.1,a.2.2.1,a.2.2.2,b,ds,()):bZ) ⟨by rw[← hbd],hb2⟩
  have tail:∀ (b:Bool) (ds:List Int),(b,ds)=N (gE a.2.2.2 (i+1))→(gE a.2.2.2 (i+1)).natAbs≤(i+1)*10 ^ 40→∀ (f2:Nat),((cq a.2.2.2 i).map (lab a.2.2.2)).reverse.length<f2→_:=fun b ds hbd hb2 f2 hf2=>R3 hf h hi all (a.2.2.2.length:Int) (i:Int) b ds a.2.2.2[i].2.1 a.2.2.2[i].2.2.1.1 a.2.2.2[i].2.2.1.2 a.2.2.2[i].2.2.2 (((cq a.2.2.2 i).map (lab a.2.2.2)).reverse) (fun s hs=>by
   obtain⟨T,hT,e⟩:=T4.1 (List.mem_reverse.1 hs)
   exact⟨T,hT,e.symm⟩) (by omega) f2 hf2
  have hbb:(gE a.2.2.2 i).natAbs≤10 ^ 43:=Uz hb (Uz (UL _ (show i≤1000 by omega)) (by decide))
  have no:=(show Le 43 (gE a.2.2.2 i) from hbb).n (by omega)
  have ns:=(show Le 40 (gX (fR a.2.2.2 (lab a.2.2.2 i))) from hsl').n (by omega)
  have main:(gE a.2.2.2 (i+1)).natAbs≤(i+1)*10 ^ 40:=by
   rw[hout]
   split
   ·omega
   ·omega
  obtain⟨R,hR⟩:∃ R,R=((cq a.2.2.2 i).map (lab a.2.2.2)).reverse:=⟨_,rfl⟩
  rw[← hR] at hpath hPl tail
  rw[hlab] at hpath tail
  have hw:w64 ((((R++[a.2.2.2[i].1]).length:Nat):Int) - 1)=((R.length:Nat):Int):=by
   rw[TM]
   show w64 (((R.length+1:Nat):Int) - 1)=_
   rw[aB (by omega) (by omega)];omega
  have hlen:((((R++[a.2.2.2[i].1]).length:Nat):Int)==0)=false:=by
   rw[TM]
   show (((R.length+1:Nat):Int)==0)=false
   simp;omega
  have hix2:(R++[a.2.2.2[i].1])[R.length]? =some a.2.2.2[i].1:=by simp
  have hlast:(a.2.2.2[i].1==a.2.2.2[i].1)=true:=by simp
  have hchk:(decide ((0:Int)≤0)&&decide ((0:Int)≤((R.length:Nat):Int))&&decide (((R.length:Nat):Int)≤(((R++[a.2.2.2[i].1]).length:Nat):Int)))=true:=by
   rw[TM]
   simp only[Sx,U9]
   omega
  have hdt:List.drop 0 (List.take (Int.toNat ((R.length:Nat):Int)) (R++[a.2.2.2[i].1]))=R:=by
   rw[S7,Ul,Tk]
  rcases hpg with ⟨p1,p2⟩ | ⟨p1,k',p2,p3⟩
  ·have hB:sS a.2.2.2 i=true:=by unfold sS;rw[p2];rfl
   rw[Vg hB] at hout
   rw[show (a.2.2.2[i].2.1==[])=true by simpa using p1,U5,Iu _ (by omega) g2,UT]
   dsimp only
   rw[show ((N (gE a.2.2.2 i)).1,(N (gE a.2.2.2 i)).2)=N (gE a.2.2.2 i) from rfl,g1,AL _ _ (by omega) (by omega),UT, ← hout,aS]
   dsimp only
   rw[hpath,UT]
   dsimp only
   rw[show ((0:Int) != 0)=false from rfl,U4,hlen,U4,hw,bD,hix2,UT,hlast,SG,U4,bq hchk,hdt]
   have ht:=tail (N (gE a.2.2.2 (i+1))).1 (N (gE a.2.2.2 (i+1))).2 rfl main
   rw[ht _ (by omega),aS]
   dsimp only
   rw[aB (n:=(i:Int)+1) (by omega) (by omega)]
   exact rest _ _ rfl main
  ·have hB:¬sS a.2.2.2 i=true:=by unfold sS;rw[p2];simp
   rw[Vf hB,Int.add_zero] at hout
   rw[show (a.2.2.2[i].2.1==[])=false by simpa using p1,U4, ← hout,aS]
   dsimp only
   rw[hpath,UT]
   dsimp only
   rw[show ((0:Int) != 0)=false from rfl,U4,hlen,U4,hw,bD,hix2,UT,hlast,SG,U4,bq hchk,hdt]
   have ht:=tail (N (gE a.2.2.2 (i+1))).1 (N (gE a.2.2.2 (i+1))).2 rfl main
   rw[ht _ (by omega),aS]
   dsimp only
   rw[aB (n:=(i:Int)+1) (by omega) (by omega)]
   exact rest _ _ rfl main
 ·rintro _ again ⟨rfl,hb⟩
  unfold dn
  dsimp only
  rw[aT (by omega)]
  exact .inr ⟨rfl,hb⟩
theorem law_ParcelTotalsAreParts (a:aC) (hf:zX a):fB a=some (true,()):=by
 unfold fB
 rw[w6 a hf [],UT]
 dsimp only
 unfold Ii
 by_cases h:cR a=0
 rotate_left
 ·rw[Vg h]
  rw[show (([],cR a):List bh×Int).2=cR a from rfl,show (cR a != 0)=true by simpa using h,U5]
  rw[show ((List.length (([],cR a):List bh×Int).1:Int)==0)=true from rfl,U5,tT]
  rfl
 rw[Vf (by simpa using h),Vg (.inl rfl)]
 have hS:=M9 h []
 have hl:=(fK h).len
 rcases F4 (fR a.2.2.2 []) with h0 | h0
 rotate_left
 ·have e1:(kE (fR a.2.2.2 [])).1=[]:=by
   unfold kE at*
   cases hg:rM (fR a.2.2.2 []) (ksS (fR a.2.2.2 [])) with
   | none=>rfl
   | some L=>rw[hg] at h0;cases h0
  rw[h0,e1,show ((1:Int) != 0)=true from rfl,U5]
  rw[show ((List.length ([]:List bh):Int)==0)=true from rfl,U5,tT]
  rfl
 rw[h0,show ((0:Int) != 0)=false from rfl,U4]
 obtain⟨g1,g2,g3⟩:=Hs hS h0
 have hsl:(gX (fR a.2.2.2 [])).natAbs≤10 ^ 40:=M8 hS h0 (by omega)
 have hff:a.2.2.2.length<(kE (fR a.2.2.2 [])).1.length+(a.2.2.2.length+(Int.natAbs ((a.2.2.2.length:Nat):Int)+(Int.natAbs (0:Int)+(a.1.length+(a.2.1.length+(a.2.2.1.natAbs+(a.2.2.2.length+(([]:List Int).length+2)))))))):=by omega
 generalize (kE (fR a.2.2.2 [])).1.length+(a.2.2.2.length+(Int.natAbs ((a.2.2.2.length:Nat):Int)+(Int.natAbs (0:Int)+(a.1.length+(a.2.1.length+(a.2.2.1.natAbs+(a.2.2.2.length+(([]:List Int).length+2))))))))=F at hff ⊢
 rcases Rt hf h (kE (fR a.2.2.2 [])).1 F hff with e | ⟨e,hb⟩
 ·rw[e,iI]
 ·rw[e,aS]
  dsimp only
  have hall:gE a.2.2.2 a.2.2.2.length=gX (fR a.2.2.2 []):=O8 h
  have ns:=(show Le 40 (gX (fR a.2.2.2 [])) from hsl).n (by omega)
  rw[Iu _ (by omega) g2,UT]
  dsimp only
  rw[g1,hall]
  rw[show ((N (gX (fR a.2.2.2 []))).1,(N (gX (fR a.2.2.2 []))).2)=N (gX (fR a.2.2.2 [])) from rfl,Ph _ _ (by omega) (by omega),UT]
  dsimp only
  rw[Int.sub_self,show (Int.sign 0==0)=true from rfl,U5,tT]
  rfl
end Go.Md
