/-
  Plain facts: what is in parcels; parcels moved and opened; the plain law is true of all data. No condition.
-/
import Derived.Test.YtnamfglkolhhgacGreatDoorYo
import Derived.Test.YtnamfglkolhhgacGreatDoorYu
set_option linter.all false
set_option linter.all false
set_option maxRecDepth 20000
namespace Go.Md
open Go.Dn
abbrev Tw:Type:=List UInt8×List UInt8
theorem AG (a b:Tw):Ty.beq aF a b=decide (a=b):=by
 show (F6 a.1 b.1&&F6 a.2 b.2)=_
 by_cases h1:a.1=b.1
 ·by_cases h2:a.2=b.2
  ·rw[VA (Prod.ext h1 h2)]
   simp[F6,h1,h2]
  ·rw[Vy (fun e=>h2 (by rw[e]))]
   simp[F6,h2]
 ·rw[Vy (fun e=>h1 (by rw[e]))]
  simp[F6,h1]
def toW (p:Tw×Int):Tw×au:=(p.1,W p.2)
def dU (k:Tw):List (Tw×Int)→Option Int
 | []=>none
 | p::r=>if k=p.1 then some p.2 else dU k r
def eZ (k:Tw) (z:Int):List (Tw×Int)→List (Tw×Int)
 | []=>[(k,z)]
 | p::r=>if k=p.1 then (k,p.2+z)::r else p::eZ k z r
theorem Pb (k:Tw):∀ S:List (Tw×Int),bW (k:=aF) (v:=aC) (S.map toW) k=(dU k S).map W
 | []=>rfl
 | p::r=>by
  refine (@Pc aF aC (toW p) (r.map toW) k).trans ?_
  have ih:=Pb k r
  simp only[dU]
  by_cases h:k=p.1
  ·rw[VH h,show Ty.beq aF k (toW p).1=true from (AG _ _).trans (VA h)];rfl
  ·rw[VG h,show Ty.beq aF k (toW p).1=false from (AG _ _).trans (Vy h),Vw];exact ih
theorem JB (k:Tw) (z:Int):∀ (S:List (Tw×Int)) (b:Int),dU k S=some b→iY (k:=aF) (v:=aC) (S.map toW) k (W (b+z))=(eZ k z S).map toW
 | p::r,b,h=>by
  refine (@Jy aF aC (toW p) (r.map toW) k _).trans ?_
  simp only[dU] at h
  simp only[eZ]
  by_cases e:k=p.1
  ·rw[VH e] at h
   cases h
   rw[VH e,show Ty.beq aF k (toW p).1=true from (AG _ _).trans (VA e)];rfl
  ·rw[VG e] at h
   rw[VG e,show Ty.beq aF k (toW p).1=false from (AG _ _).trans (Vy e),Vw,JB k z r b h]
   rfl
theorem Jz (k:Tw) (z:Int):∀ (S:List (Tw×Int)),dU k S=none→iY (k:=aF) (v:=aC) (S.map toW) k (W z)=(eZ k z S).map toW
 | [],_=>rfl
 | p::r,h=>by
  refine (@Jy aF aC (toW p) (r.map toW) k _).trans ?_
  simp only[dU] at h
  simp only[eZ]
  by_cases e:k=p.1
  ·rw[VH e] at h;cases h
  ·rw[VG e] at h
   rw[VG e,show Ty.beq aF k (toW p).1=false from (AG _ _).trans (Vy e),Vw,Jz k z r h]
   rfl
theorem O9 (k:Tw) (S:List (Tw×Int)) (M:List (Tw×au)) (hM:M=S.map toW):bW (k:=aF) (v:=aC) M k=(dU k S).map W:=by
 subst hM;exact Pb k S
theorem NV (k:Tw) (z:Int) (S:List (Tw×Int)) (M:List (Tw×au)) (hM:M=S.map toW) (b:Int) (h:dU k S=some b):iY (k:=aF) (v:=aC) M k (W (b+z))=(eZ k z S).map toW:=by
 subst hM;exact JB k z S b h
theorem NU (k:Tw) (z:Int) (S:List (Tw×Int)) (M:List (Tw×au)) (hM:M=S.map toW) (h:dU k S=none):iY (k:=aF) (v:=aC) M k (W z)=(eZ k z S).map toW:=by
 subst hM;exact Jz k z S h
def M24:Nat:=10 ^ 24
def Sm (n:Nat) (S:List (Tw×Int)):Prop:=∀ p∈S,p.2.natAbs≤n*M24
theorem Sm.add {n:Nat} {S:List (Tw×Int)} (h:Sm n S) {k:Tw} {z:Int} (hz:z.natAbs≤10 ^ 24):Sm (n+1) (eZ k z S):=by
 have hz:z.natAbs≤M24:=hz
 have e:(n+1)*M24=n*M24+M24:=by rw[UR,Ve]
 induction S with
 | nil=>
  intro p hp
  rcases Uv.1 hp with rfl
  show z.natAbs≤_
  rw[e];omega
 | cons q r ih=>
  have h1:=h q Um
  intro p hp
  simp only[eZ] at hp
  split at hp
  ·rcases Uk.1 hp with rfl | hp
   ·show (q.2+z).natAbs≤_
    rw[e];omega
   ·have:=h p (Ul _ hp)
    rw[e];omega
  ·rcases Uk.1 hp with rfl | hp
   ·rw[e];omega
   ·exact ih (fun x hx=>h x (Ul _ hx)) p hp
theorem za {k:Tw}:∀ {S:List (Tw×Int)} {b:Int},dU k S=some b→(k,b)∈S
 | p::r,b,h=>by
  simp only[dU] at h
  split at h
  ·rename_i e
   cases h
   rw[e];exact Um
  ·exact Ul _ (za h)
theorem Sm.le {n:Nat} {S:List (Tw×Int)} (h:Sm n S) (hn:n≤1000000) {p:Tw×Int} (hp:p∈S):p.2.natAbs≤10 ^ 30:=by
 have h1:=h p hp
 have h2:=Vc M24 hn
 exact U1 h1 (U1 h2 (by unfold M24;decide))
theorem Nu {d:aj} (h:er d):(v9 d).natAbs≤10 ^ 24:=Sg h
theorem Np {d:aj} (h:er d):dG d 9=some (W (v9 d),()):=by
 have h1:=h.1;have h2:=h.2
 exact rF d 9 (by omega) (by omega) (by omega) (by omega) (by omega)
theorem D5 {n:Nat} (h:n≤10 ^ 40):n<4294967296 ^ 99:=by
 refine U3 h ?_
 exact U4 (show 10 ^ 40<4294967296 ^ 5 by decide) (Vg (by decide) (by decide))
theorem MP {n:Nat} {S:List (Tw×Int)} (hS:Sm n S) (hn:n≤1000000) (k:Tw) {d:aj} (hd:er d):iU (S.map toW) k d=some ((eZ k (v9 d) S).map toW,()):=by
 have hv:=Nu hd
 obtain⟨M,hM⟩:∃ M:List (Tw×au),M=S.map toW:=⟨_,rfl⟩
 rw[← hM]
 have hg:=O9 k S M hM
 have hs:=fun b h=>NV k (v9 d) S M hM b h
 have hs0:=NU k (v9 d) S M hM
 unfold iU
 rw[hg]
 cases h:dU k S with
 | none=>
  show (Option.bind (nE 0) fun r1=>Option.bind (dG d 9) fun r2=>Option.bind (eW r1.1 r2.1) fun r3=>some (iY (k:=aF) (v:=aC) M k r3.1,()))=_
  rw[qT 0 (by omega) (by omega),Vl,Np hd,Vl]
  dsimp only
  rw[qB 0 _ (D5 (by omega)) (D5 (by omega)),Vl]
  dsimp only
  rw[Int.zero_add,hs0 h]
  rfl
 | some b=>
  have hb:=hS.le hn (za h)
  show (Option.bind (dG d 9) fun r4=>Option.bind (eW (W b) r4.1) fun r5=>some (iY (k:=aF) (v:=aC) M k r5.1,()))=_
  rw[Np hd,Vl]
  dsimp only
  rw[qB b _ (D5 (by omega)) (D5 (by omega)),Vl]
  dsimp only
  rw[hs b h]
  rfl
theorem Cm (k:Tw) (z:Int):∀ S:List (Tw×Int),(∀ p,p∈eZ k z S→p.1=k∨∃ q∈S,q.1=p.1)
 | [],p,hp=>by rcases Uv.1 hp with rfl;exact .inl rfl
 | q::r,p,hp=>by
  simp only[eZ] at hp
  split at hp
  ·rcases Uk.1 hp with rfl | hp
   ·exact .inl rfl
   ·exact .inr ⟨p,Ul _ hp,rfl⟩
  ·rcases Uk.1 hp with rfl | hp
   ·exact .inr ⟨p,Um,rfl⟩
   ·rcases Cm k z r p hp with h | ⟨x,hx,h⟩
    ·exact .inl h
    ·exact .inr ⟨x,Ul _ hx,h⟩
theorem MT (k:Tw) (z:Int):∀ S:List (Tw×Int),(S.map (·.1)).Nodup→((eZ k z S).map (·.1)).Nodup
 | [],_=>by simp[eZ]
 | q::r,h=>by
  rw[Uf,Uy] at h
  simp only[eZ]
  split
  ·rename_i e
   rw[Uf,Uy,e];exact h
  ·rename_i e
   rw[Uf,Uy]
   refine⟨fun hm=> ?_,MT k z r h.2⟩
   obtain⟨p,hp,e1⟩:=Up.1 hm
   rcases Cm k z r p hp with h1 | ⟨x,hx,h1⟩
   ·exact e (by rw[← h1,e1])
   ·exact h.1 (Up.2 ⟨x,hx,h1.trans e1⟩)
theorem KL (k:Tw) (z:Int):∀ S:List (Tw×Int),(eZ k z S).length≤S.length+1
 | []=>by simp[eZ]
 | q::r=>by
  have ih:=KL k z r
  simp only[eZ]
  split
  ·simp
  ·simp only[T8];omega
structure rD (n:Nat) (S:List (Tw×Int)):Prop where
 sm:Sm n S
 nd:(S.map (·.1)).Nodup
 st:∀ p∈S,p.1.1.length≤1000∧p.1.2.length≤1000
 len:S.length≤n
theorem rD.nil:rD 0 []:=⟨fun _ h=>(by cases h),List.nodup_nil,fun _ h=>(by cases h),U0 _⟩
theorem rD.add {n:Nat} {S:List (Tw×Int)} (h:rD n S) {k:Tw} {z:Int} (hz:z.natAbs≤10 ^ 24) (hk:k.1.length≤1000∧k.2.length≤1000):rD (n+1) (eZ k z S):=
 ⟨h.sm.add hz,MT k z S h.nd,fun p hp=>by
   rcases Cm k z S p hp with e | ⟨q,hq,e⟩
   ·rw[e];exact hk
   ·rw[← e];exact h.st q hq,U1 (KL k z S) (Nat.succ_le_succ h.len)⟩
theorem M8 {s:List UInt8} (h:oT s=true):s.length≤1000:=by
 apply Decidable.byContradiction
 intro hc
 unfold oT at h
 have e:fI s=some (false,()):=by
  unfold fI
  rw[aX (by omega),aO (by omega)]
 rw[e] at h
 cases h
structure Nv (c:ah):Prop where
 d:er c.2.2.2
 n1:c.1.length≤1000
 n2:c.2.1.length≤1000
def PK (l:List aa):Prop:=∀ p∈l,p.2.2.2.length≤100∧∀ c∈p.2.2.2,Nv c
theorem K2 {l:List ah} (h:vg l=0):∀ c∈l,Nv c:=by
 have hq:=(EP h).2
 unfold vg at h
 split at h
 ·omega
 intro c hc
 have hd:=(hq c hc).dec
 obtain⟨i,hi⟩:=Uo.1 hc
 have:=eU h i c hi
 unfold DP at this
 split at this
 ·omega
 rename_i h1
 split at this
 ·omega
 rename_i h2
 exact⟨hd,M8 (by simpa using h1),M8 (by simpa using h2)⟩
theorem As {a:ak} (h:cm a=0):PK a.2.2.2:=by
 intro p hp
 refine⟨(sB h p hp).n, ?_⟩
 unfold cm at h
 split at h
 ·omega
 split at h
 ·omega
 split at h
 ·omega
 split at h
 ·omega
 split at h
 ·omega
 have h3:eA (kC a.2.2.2) 0 a.2.2.2=0:=by omega
 obtain⟨i,hi⟩:=Uo.1 hp
 have:=eU h3 i p hi
 unfold kC at this
 split at this
 ·omega
 split at this
 ·omega
 split at this
 ·omega
 exact K2 this
def ck (c:ah):Tw:=(c.1,c.2.1)
def uF (S:List (Tw×Int)) (cs:List ah):List (Tw×Int):=cs.foldl (fun S c=>eZ (ck c) (v9 c.2.2.2) S) S
theorem PF (S:List (Tw×Int)) (cs:List ah) (c:ah):uF S (cs++[c])=eZ (ck c) (v9 c.2.2.2) (uF S cs):=by
 unfold uF;rw[List.foldl_append];rfl
theorem rD.Qx {n:Nat} {S:List (Tw×Int)} (h:rD n S):∀ cs:List ah,(∀ c∈cs,Nv c)→rD (n+cs.length) (uF S cs):=by
 intro cs
 induction cs generalizing n S with
 | nil=>intro _;exact h
 | cons c r ih=>
  intro hc
  have h1:=hc c Um
  have:=ih (h.add (k:=ck c) (Nu h1.d) ⟨h1.n1,h1.n2⟩) (fun x hx=>hc x (Ul _ hx))
  rw[T8,show n+(r.length+1)=n+1+r.length by omega]
  exact this
end Go.Md
set_option linter.all false
set_option maxRecDepth 20000
namespace Go.Md
open Go.Dn
theorem vW {a b:Tw}:dN a b<0↔Op.bytesLess a.1 b.1=true∨(a.1=b.1∧Op.bytesLess a.2 b.2=true):=by
 unfold dN
 by_cases h:Lib.compareBytes a.1 b.1=0
 ·rw[show (Lib.compareBytes a.1 b.1==0)=true by simpa using h,Vx,tU]
  have e:=oQ.1 h
  constructor
  ·intro h2;exact .inr ⟨e,h2⟩
  ·rintro (h2 | ⟨_,h2⟩)
   ·rw[e,fD] at h2;cases h2
   ·exact h2
 ·rw[show (Lib.compareBytes a.1 b.1==0)=false by simpa using h,Vw,tU]
  constructor
  ·exact .inl
  ·rintro (h2 | ⟨e,_⟩)
   ·exact h2
   ·exact absurd (oQ.2 e) h
theorem sE (a b:Tw):dN a b<0∨a=b∨dN b a<0:=by
 rw[vW,vW]
 rcases CA a.1 b.1 with h | h | h
 ·exact .inl (.inl h)
 ·rcases CA a.2 b.2 with g | g | g
  ·exact .inl (.inr ⟨h,g⟩)
  ·exact .inr (.inl (Prod.ext h g))
  ·exact .inr (.inr (.inr ⟨h.symm,g⟩))
 ·exact .inr (.inr (.inl h))
theorem PY {n:Nat} {S:List (Tw×Int)} (h:rD n S) (hn:n≤1000000):xm dN (S.map toW)=true:=by
 have e:(S.map toW).map (·.1)=S.map (·.1):=by rw[Ug];rfl
 have h1:=h.len
 unfold xm
 rw[e]
 simp only[SX,VB,Ua,Tq,Tf]
 refine⟨by omega,fun p hp=> ?_,h.nd,fun x _ y _=> ?_⟩
 ·obtain⟨q,hq,rfl⟩:=Up.1 hp
  have:=h.st q hq
  show q.1.1.length≤_∧q.1.2.length≤_
  omega
 ·rcases sE x y with h | h | h
  ·exact .inl h
  ·exact .inr (.inr h)
  ·exact .inr (.inl h)
def ksS (S:List (Tw×Int)):List Tw:=(S.map (·.1)).mergeSort fun x y=> !decide (dN y x<0)
theorem RB (S:List (Tw×Int)):lu dN (S.map toW)=ksS S:=by
 have e:(S.map toW).map (·.1)=S.map (·.1):=by rw[Ug];rfl
 unfold lu ksS
 rw[e]
theorem xY (S:List (Tw×Int)):(ksS S).Perm (S.map (·.1)):=Uw _ _
def gF (S:List (Tw×Int)) (k:Tw):Int:=(dU k S).getD 0
theorem P9 {S:List (Tw×Int)} (hnd:(S.map (·.1)).Nodup) {p:Tw×Int} (hp:p∈S):dU p.1 S=some p.2:=by
 induction S with
 | nil=>cases hp
 | cons q r ih=>
  rw[Uf,Uy] at hnd
  simp only[dU]
  rcases Uk.1 hp with rfl | hp
  ·rw[VH rfl]
  ·rw[VG (fun e=>hnd.1 (Up.2 ⟨p,hp,e⟩))]
   exact ih hnd.2 hp
def okD (z:Int):Bool:=decide ((few 9 z).1.natAbs≤1000000000000000)
def mX (S:List (Tw×Int)):List Tw→Option (List bw)
 | []=>some []
 | k::r=>if okD (gF S k)=true then (mX S r).map fun l=>if (few 9 (gF S k)).1=0 then l else (k.1,k.2,HP (gF S k))::l else none
def zB (S:List (Tw×Int)):List bw×Int:=match mX S (ksS S) with
 | some l=>(l,0)
 | none=>([],1)
theorem Q5 {z:Int} (h:z.natAbs≤10 ^ 30):Le 42 z:=U1 h (by decide)
theorem RA {n:Nat} {S:List (Tw×Int)} (h:rD n S) (hn:n≤1000000) {M:List (Tw×au)} (hM:M=S.map toW) (ks:List Tw) (hks:ks.length≤1000000) (hsub:∀ k∈ks,∃ z,dU k S=some z):
 ∀ (r:List Tw) (i f:Nat) (acc:List bw),ks.drop i=r→i≤ks.length→r.length<f→acc.length≤i→
 iter (X:=jm) (β:=jl) f (acc,(ks.length:Int),(i:Int),ks,M,()) gJ=
  some (match mX S r with | some l=>Sum.inr (acc++l,M,()) | none=>Sum.inl ([],1,M,())):=by
 have FJ:maxLen=9223372036854775807:=rfl
 intro r
 induction r with
 | nil=>
  intro i f acc hdr hi hf ha
  have:i=ks.length:=by
   have:=congrArg List.length hdr
   simp at this;omega
  subst this
  obtain⟨f,rfl⟩:∃ m,f=m+1:=⟨f - 1,by omega⟩
  rw[fZ]
  unfold gJ
  dsimp only
  rw[aX (by omega)]
  simp only[mX,Tv]
 | cons k r ih=>
  intro i f acc hdr hi hf ha
  have hki:ks[i]? =some k:=by
   have:=congrArg (·[0]?) hdr
   simpa [TR] using this
  have hr':ks.drop (i+1)=r:=by
   have:=congrArg List.tail hdr
   simpa [List.tail_drop] using this
  have hlt:=(TU.1 hki).1
  obtain⟨z,hz⟩:=hsub k (Uq hki)
  have hv:gF S k=z:=by unfold gF;rw[hz];rfl
  have hzb:=h.sm.le hn (za hz)
  obtain⟨f,rfl⟩:∃ m,f=m+1:=⟨f - 1,by simp at hf;omega⟩
  simp only[T8] at hf
  have hg:Option.getD (α:=au) (bW (k:=aF) (v:=aC) M k) (false,[])=W z:=by
   rw[O9 k S M hM,hz];rfl
  rw[fZ]
  generalize hag:(fun y=>iter f y gJ)=again
  unfold gJ
  dsimp only
  rw[aO (by omega),bz (by simp only[SX,VB];omega),To,hki,Vl,hg,IZ (Q5 hzb),Vl]
  simp only[mX]
  rw[hv]
  by_cases hok:(few 9 z).1.natAbs≤1000000000000000
  ·rw[VH hok,VH (show okD z=true from VA hok)]
   dsimp only
   rw[show ((0:Int) != 0)=false from rfl,Vw,aR (n:=(i:Int)+1) (by omega) (by omega), ← hag,show (i:Int)+1=((i+1:Nat):Int) by omega]
   have ht:(HP z).1=(few 9 z).1:=rfl
   rw[ht]
   by_cases h0:(few 9 z).1=0
   ·rw[h0,show ((0:Int) != 0)=false from rfl,Vw]
    refine (ih (i+1) f acc hr' (by omega) (by omega) (by omega)).trans ?_
    cases mX S r with
    | none=>rfl
    | some l=>rfl
   ·rw[show ((few 9 z).1 != 0)=true by simpa using h0,Vx,bz (by rw[SX];exact⟨VA (by omega),VA (by omega)⟩)]
    refine (ih (i+1) f _ hr' (by omega) (by omega) (by simp;omega)).trans ?_
    cases mX S r with
    | none=>rfl
    | some l=>
     show some (Sum.inr ((acc++[(k.1,k.2,HP z)])++l,M,()))=some (Sum.inr (acc++(if (few 9 z).1=0 then l else (k.1,k.2,HP z)::l),M,()))
     rw[VG h0,Tu]
     rfl
  ·rw[VG hok,VG (show ¬okD z=true from fun e=>hok (VM e))]
   rfl
theorem NI {n:Nat} {S:List (Tw×Int)} (h:rD n S) (hn:n≤1000000):qc (S.map toW)=some ((zB S).1,(zB S).2,S.map toW,()):=by
 have hk:=PY h hn
 have he:=RB S
 have hp:=xY S
 have hl:=h.len
 have hkl:(ksS S).length≤1000000:=by rw[hp.length_eq,Ua];omega
 obtain⟨M,hM⟩:∃ M:List (Tw×au),M=S.map toW:=⟨_,rfl⟩
 rw[← hM] at hk he ⊢
 unfold qc
 rw[bz hk,he]
 have loop:=RA h hn hM (ksS S) hkl (fun k hk=>by
  obtain⟨p,hp',rfl⟩:=Up.1 (hp.mem_iff.1 hk)
  exact⟨_,P9 h.nd hp'⟩) (ksS S) 0
 have loop':∀ f,(ksS S).length<f→iter (X:=jm) (β:=jl) f ([],((ksS S).length:Int),0,ksS S,M,()) gJ=_:=fun f hf=>loop f [] rfl (Vk _) hf (U0 _)
 rw[loop' _ (by rw[Int.natAbs_natCast];omega)]
 unfold zB
 cases mX S (ksS S) with
 | none=>rfl
 | some l=>rfl
theorem QM {n:Nat} {S:List (Tw×Int)} (hS:rD n S) (hn:n+100≤1000000) (t:List UInt8) (l l2:List aa) (c1 c2:Int) (a1 a2:List UInt8) (a3:Int) (cs:List ah) (hcs:cs.length≤100) (hc:∀ c∈cs,Nv c) (f:Nat) (hf:cs.length<f) {M:List (Tw×au)} (hM:M=S.map toW) {M':List (Tw×au)} (hM':M'=(uF S cs).map toW):
 iter (X:=jk) (β:=l9) f (t,l,c1,c2,cs,(cs.length:Int),0,a1,a2,a3,l2,M,()) l8=some (Sum.inr (t,l,c1,c2,a1,a2,a3,l2,M',())):=by
 refine cN (Inv:=fun i X=>∃ M1,M1=(uF S (cs.take i)).map toW∧X=((t,l,c1,c2,cs,(cs.length:Int),(i:Int),a1,a2,a3,l2,M1,()):jk)) cs.length (fun r=>r=some (Sum.inr (t,l,c1,c2,a1,a2,a3,l2,M',()))) ?_ ?_ f 0 _ ⟨M,hM,rfl⟩ (by omega) (by omega)
 ·rintro i _ again hi ⟨M1,hM1,rfl⟩ ih
  have hy:cs[i]? =some cs[i]:=aI hi
  have hm:cs[i]∈cs:=T6 hi
  have ets:cs.take (i+1)=cs.take i++[cs[i]]:=by rw[List.take_succ,hy];rfl
  have hSi:rD (n+(cs.take i).length) (uF S (cs.take i)):=hS.Qx _ fun c hc'=>hc c (Us hc')
  have hti:(cs.take i).length≤100:=by rw[Ud];omega
  have hadd:=MP hSi.sm (by omega) (ck cs[i]) (hc _ hm).d
  rw[← hM1] at hadd
  unfold l8
  dsimp only
  rw[aO (by omega),bL,hy,Vl]
  refine (show _→_ from fun h=>h) ?_
  rw[show ((cs[i].1,cs[i].2.1):bB)=ck cs[i] from rfl,hadd,Vl]
  dsimp only
  rw[aR (n:=(i:Int)+1) (by omega) (by omega)]
  exact ih _ ⟨_,by rw[ets,PF],rfl⟩
 ·rintro _ again ⟨M1,hM1,rfl⟩
  unfold l8
  dsimp only
  rw[aX (by omega)]
  rw[List.take_length] at hM1
  rw[hM1, ← hM']
def uG (B:Nat→Bool) (l:List aa):Nat→List (Tw×Int)
 | 0=>[]
 | i+1=>if B i=true then uF (uG B l i) ((l[i]?).map (·.2.2.2)).get! else uG B l i
theorem xz {B:Nat→Bool} {l:List aa} (hl:PK l):∀ i,i≤l.length→rD (100*i) (uG B l i)
 | 0,_=>rD.nil
 | i+1,hi=>by
  have ih:=xz (B:=B) hl i (by omega)
  have hy:l[i]? =some l[i]:=aI (by omega)
  have hp:=hl l[i] (T6 (by omega))
  simp only[uG]
  split
  ·rw[hy]
   have:=ih.Qx l[i].2.2.2 hp.2
   exact⟨fun p h=>U1 (this.sm p h) (Vc _ (by omega)),this.nd,this.st,by have:=this.len;show (uF _ l[i].2.2.2).length≤_;omega⟩
  ·exact⟨fun p h=>U1 (ih.sm p h) (Vc _ (by omega)),ih.nd,ih.st,by have:=ih.len;omega⟩
theorem Rn {a:ak} (hl:a.2.2.2.length≤500) (hp:PK a.2.2.2) (t:List UInt8) (B:Nat→Bool) (hB:∀ i,i<a.2.2.2.length→iw a (i:Int) t=some (B i,())) {M':List (Tw×au)} (hM':M'=(uG B a.2.2.2 a.2.2.2.length).map toW) (f:Nat) (hf:a.2.2.2.length<f):
 iter (X:=jU) (β:=ni) f (t,a.2.2.2,(a.2.2.2.length:Int),0,a.1,a.2.1,a.2.2.1,a.2.2.2,[],()) nh=some (Sum.inr (M',())):=by
 refine cN (Inv:=fun i X=>∃ M1,M1=(uG B a.2.2.2 i).map toW∧X=((t,a.2.2.2,(a.2.2.2.length:Int),(i:Int),a.1,a.2.1,a.2.2.1,a.2.2.2,M1,()):jU)) a.2.2.2.length (fun r=>r=some (Sum.inr (M',()))) ?_ ?_ f 0 _ ⟨[],rfl,rfl⟩ (by omega) (by omega)
 ·rintro i _ again hi ⟨M1,hM1,rfl⟩ ih
  have hy:a.2.2.2[i]? =some a.2.2.2[i]:=aI hi
  have hpi:=hp a.2.2.2[i] (T6 hi)
  have hSi:=xz (B:=B) hp i (by omega)
  have hBi:iw (a.1,a.2.1,a.2.2.1,a.2.2.2) (i:Int) t=some (B i,()):=hB i hi
  unfold nh
  dsimp only
  rw[aO (by omega),bL,hy,Vl,hBi,Vl]
  dsimp only
  cases hb:B i with
  | false=>
   rw[Tc,Vx,aR (n:=(i:Int)+1) (by omega) (by omega)]
   refine ih _ ⟨M1, ?_,rfl⟩
   rw[hM1]
   simp only[uG]
   rw[hb];rfl
  | true=>
   rw[Td,Vw]
   obtain⟨M2,hM2⟩:∃ M2:List (Tw×au),M2=(uF (uG B a.2.2.2 i) a.2.2.2[i].2.2.2).map toW:=⟨_,rfl⟩
   have h2:=fun (f:Nat) (hf:a.2.2.2[i].2.2.2.length<f)=>QM hSi (by omega) t a.2.2.2 a.2.2.2 (a.2.2.2.length:Int) (i:Int) a.1 a.2.1 a.2.2.1 a.2.2.2[i].2.2.2 hpi.1 hpi.2 f hf hM1 hM2
   rw[h2 _ (U2 _ (U2 _ (U2 _ (U2 _ (Nat.lt_add_of_pos_right (by with_reducible repeat (first | exact Nat.zero_lt_two | refine U2 _ ?_))))))),aZ]
   dsimp only
   rw[aR (n:=(i:Int)+1) (by omega) (by omega)]
   refine ih _ ⟨M2, ?_,rfl⟩
   rw[hM2]
   simp only[uG]
   rw[hb,hy];rfl
 ·rintro _ again ⟨M1,hM1,rfl⟩
  unfold nh
  dsimp only
  rw[aX (by omega)]
  rw[hM1, ← hM']
theorem Mj {a:ak} (hok:Gc a) {t:List UInt8} (ht:t=[]∨(dn (fun x:aa=>x.1) t a.2.2.2).isSome=true):∀ i,i<a.2.2.2.length→iw a (i:Int) t=some (wj a.2.2.2 t i,()):=fun i hi=>by
 by_cases h0:t=[]
 ·subst h0;rfl
 ·cases hT:dn (fun x:aa=>x.1) t a.2.2.2 with
  | none=>rw[hT] at ht;simp[h0] at ht
  | some T=>rw[KQ hok hi h0 hT];unfold wj;rw[VG h0,hT]
def Oh (l:List aa) (t:List UInt8):List (Tw×Int):=uG (wj l t) l l.length
noncomputable def je (a:ak) (t:List UInt8):List bw×Int:=if cm a≠0 then ([],cm a) else if t=[]∨(dn (fun x:aa=>x.1) t a.2.2.2).isSome=true then zB (Oh a.2.2.2 t) else ([],9)
theorem rP (a:ak) (hf:oM a) (t:List UInt8):eP a t=some ((je a t).1,(je a t).2,()):=by
 unfold eP je
 by_cases h:cm a=0
 rotate_left
 ·rw[VH h]
  unfold cR
  rw[eo a hf,Vl]
  dsimp only
  rw[show (cm a != 0)=true by simpa using h,Vx,Vl]
  dsimp only
  rw[show (cm a != 0)=true by simpa using h,Vx]
 rw[VG (by simpa using h),Hi a hf h t,Vl]
 dsimp only
 have hok:=gM h
 by_cases ht:t=[]∨(dn (fun x:aa=>x.1) t a.2.2.2).isSome=true
 rotate_left
 ·rw[VG ht,VG ht];rfl
 rw[VH ht,VH ht,show ((0:Int) != 0)=false from rfl,Vw]
 obtain⟨M,hM⟩:∃ M:List (Tw×au),M=(uG (wj a.2.2.2 t) a.2.2.2 a.2.2.2.length).map toW:=⟨_,rfl⟩
 have h2:=Rn hok.len (As h) t (wj a.2.2.2 t) (Mj hok ht) hM
 rw[h2 _ (U2 _ (Nat.lt_add_of_pos_right (by with_reducible repeat (first | exact Nat.zero_lt_two | refine U2 _ ?_)))),aZ]
 dsimp only
 have hS:=xz (B:=wj a.2.2.2 t) (As h) a.2.2.2.length (U0 _)
 have hl:=hok.len
 rw[hM,NI hS (by omega),Vl]
 rfl
end Go.Md
set_option linter.all false
set_option maxRecDepth 20000
namespace Go.Md
open Go.Dn
structure SOr {κ:Type} (lt:κ→κ→Bool):Prop where
 irr:∀ a,lt a a=false
 tr:∀ {a b c},lt a b=true→lt b c=true→lt a c=true
 tri:∀ a b,lt a b=true∨a=b∨lt b a=true
theorem E4 {κ:Type} {lt:κ→κ→Bool} (irr:∀ a,lt a a=false) (tr:∀ {a b c},lt a b=true→lt b c=true→lt a c=true):∀ {l l':List κ},l.Pairwise (fun a b=>lt a b=true)→l'.Pairwise (fun a b=>lt a b=true)→(∀ x,x∈l↔x∈l')→l=l'
 | [],[],_,_,_=>rfl
 | [],y::r,_,_,hm=>by have:=(hm y).2 Um;cases this
 | x::l,[],_,_,hm=>by have:=(hm x).1 Um;cases this
 | x::l,y::r,h1,h2,hm=>by
  rw[UA] at h1 h2
  have hxy:x=y:=by
   rcases Uk.1 ((hm x).1 Um) with e | hx
   ·exact e
   rcases Uk.1 ((hm y).2 Um) with e | hy
   ·exact e.symm
   have a1:=h2.1 x hx
   have a2:=h1.1 y hy
   have a3:=tr a1 a2
   rw[irr] at a3;cases a3
  subst hxy
  have:l=r:=by
   refine E4 irr tr h1.2 h2.2 fun z=>⟨fun hz=> ?_,fun hz=> ?_⟩
   ·rcases Uk.1 ((hm z).1 (Ul _ hz)) with e | hz'
    ·have:=h1.1 z hz;rw[e,irr] at this;cases this
    ·exact hz'
   ·rcases Uk.1 ((hm z).2 (Ul _ hz)) with e | hz'
    ·have:=h2.1 z hz;rw[e,irr] at this;cases this
    ·exact hz'
  rw[this]
theorem BV {κ:Type} {lt:κ→κ→Bool} (h:SOr lt) {l l':List κ} (h1:l.Pairwise (fun a b=>lt a b=true)) (h2:l'.Pairwise (fun a b=>lt a b=true)) (hm:∀ x,x∈l↔x∈l'):l=l':=
 E4 h.irr h.tr h1 h2 hm
section
variable {κ:Type} [DecidableEq κ] (lt:κ→κ→Bool)
def qm (k:κ) (z:Int):List (κ×Int)→List (κ×Int)
 | []=>[(k,z)]
 | p::r=>if lt p.1 k=true then p::qm k z r else if p.1=k then (p.1,p.2+z)::r else (k,z)::p::r
def iR (k:κ):List (κ×Int)→Option Int
 | []=>none
 | p::r=>if k=p.1 then some p.2 else iR k r
def we (R:List (κ×Int)):Prop:=R.Pairwise fun a b=>lt a.1 b.1=true
variable {lt}
theorem KI {k:κ} {z:Int}:∀ {R:List (κ×Int)} {q:κ×Int},q∈qm lt k z R→q.1=k∨q∈R
 | [],q,h=>by simp[qm] at h;exact .inl (by rw[h])
 | p::r,q,h=>by
  unfold qm at h
  split at h
  ·rcases Uk.1 h with e | h
   ·exact .inr (by rw[e];exact Um)
   ·rcases KI h with e | h
    ·exact .inl e
    ·exact .inr (Ul _ h)
  ·split at h
   ·rename_i e
    rcases Uk.1 h with e2 | h
    ·exact .inl (by rw[e2];exact e)
    ·exact .inr (Ul _ h)
   ·rcases Uk.1 h with e2 | h
    ·exact .inl (by rw[e2])
    ·exact .inr h
theorem Jg {k:κ} {z:Int}:∀ {R:List (κ×Int)} (x:κ),x∈(qm lt k z R).map (·.1)↔x=k∨x∈R.map (·.1)
 | [],x=>by simp[qm]
 | p::r,x=>by
  unfold qm
  split
  ·rw[Uf,Uk,Jg (R:=r) x,Uf,Uk]
   constructor
   ·rintro (h | h | h)
    ·exact .inr (.inl h)
    ·exact .inl h
    ·exact .inr (.inr h)
   ·rintro (h | h | h)
    ·exact .inr (.inl h)
    ·exact .inl h
    ·exact .inr (.inr h)
  ·split
   ·rename_i e
    simp only[Uf,Uk,e]
    constructor
    ·rintro (h | h)
     ·exact .inl h
     ·exact .inr (.inr h)
    ·rintro (h | h | h)
     ·exact .inl h
     ·exact .inl h
     ·exact .inr h
   ·simp only[Uf,Uk]
theorem KJ (ho:SOr lt) {k:κ} {z:Int}:∀ {R:List (κ×Int)},we lt R→we lt (qm lt k z R)
 | [],_=>by unfold qm we;exact List.pairwise_singleton _ _
 | p::r,h=>by
  unfold we at h
  rw[UA] at h
  unfold qm
  split
  ·rename_i hlt
   unfold we
   rw[UA]
   refine⟨fun q hq=> ?_,KJ ho h.2⟩
   rcases KI hq with e | hq
   ·rw[e];exact hlt
   ·exact h.1 q hq
  ·split
   ·unfold we
    rw[UA]
    exact⟨fun q hq=>h.1 q hq,h.2⟩
   ·rename_i h1 h2
    have hkp:lt k p.1=true:=by
     rcases ho.tri k p.1 with a | a | a
     ·exact a
     ·exact absurd a.symm h2
     ·exact absurd a h1
    unfold we
    rw[UA]
    refine⟨fun q hq=> ?_,UA.2 h⟩
    rcases Uk.1 hq with e | hq
    ·rw[e];exact hkp
    ·exact ho.tr hkp (h.1 q hq)
theorem Hl {k:κ}:∀ {R:List (κ×Int)},k∉R.map (·.1)→iR k R=none
 | [],_=>rfl
 | p::r,h=>by
  simp only[Uf,Uk,VL] at h
  unfold iR
  rw[VG h.1]
  exact Hl h.2
theorem Be (ho:SOr lt) {k:κ} {z:Int} (j:κ):∀ {R:List (κ×Int)},we lt R→iR j (qm lt k z R)=if j=k then some ((iR k R).getD 0+z) else iR j R
 | [],_=>by
  unfold qm
  by_cases e:j=k
  ·rw[VH e];simp[iR,e]
  ·rw[VG e];simp[iR,e]
 | p::r,h=>by
  unfold we at h
  rw[UA] at h
  unfold qm
  split
  ·rename_i hlt
   have hpk:k≠p.1:=fun e=>by rw[← e,ho.irr] at hlt;cases hlt
   by_cases e:j=k
   ·rw[VH e]
    have hpj:j≠p.1:=by rw[e];exact hpk
    show (if j=p.1 then some p.2 else iR j (qm lt k z r))=some (((if k=p.1 then some p.2 else iR k r)).getD 0+z)
    rw[VG hpj,Be ho j h.2,VH e,VG hpk]
   ·rw[VG e]
    show (if j=p.1 then some p.2 else iR j (qm lt k z r))=(if j=p.1 then some p.2 else iR j r)
    rw[Be ho j h.2,VG e]
  ·split
   ·rename_i h1 h2
    by_cases e:j=k
    ·rw[VH e]
     show (if j=p.1 then some (p.2+z) else iR j r)=some (((if k=p.1 then some p.2 else iR k r)).getD 0+z)
     rw[VH (e.trans h2.symm),VH h2.symm];rfl
    ·rw[VG e]
     show (if j=p.1 then some (p.2+z) else iR j r)=(if j=p.1 then some p.2 else iR j r)
     have:j≠p.1:=fun e2=>e (e2.trans h2)
     rw[VG this,VG this]
   ·rename_i h1 h2
    have hk:k∉(p::r).map (·.1):=by
     have hkp:lt k p.1=true:=by
      rcases ho.tri k p.1 with a | a | a
      ·exact a
      ·exact absurd a.symm h2
      ·exact absurd a h1
     intro hm
     rw[Uf] at hm
     rcases Uk.1 hm with e | hm
     ·exact h2 e.symm
     ·obtain⟨q,hq,e⟩:=Up.1 hm
      have:=ho.tr hkp (h.1 q hq)
      rw[e,ho.irr] at this;cases this
    by_cases e:j=k
    ·rw[VH e,Hl hk]
     show (if j=k then some z else _)=_
     rw[VH e];simp
    ·rw[VG e]
     show (if j=k then some z else iR j (p::r))=_
     rw[VG e]
end
def DI (a b:Tw):Bool:=decide (dN a b<0)
theorem rW {a b:Tw}:DI a b=true↔dN a b<0:=by unfold DI;exact decide_eq_true_iff
theorem uZ {a b c:Tw} (h1:dN a b<0) (h2:dN b c<0):dN a c<0:=by
 rw[vW] at h1 h2 ⊢
 rcases h1 with h1 | ⟨e1,h1⟩<;>rcases h2 with h2 | ⟨e2,h2⟩
 ·exact .inl (jI h1 h2)
 ·exact .inl (by rw[← e2];exact h1)
 ·exact .inl (by rw[e1];exact h2)
 ·exact .inr ⟨e1.trans e2,jI h1 h2⟩
theorem zj (a:Tw):¬ dN a a<0:=by
 rw[vW]
 rintro (h | ⟨_,h⟩)<;>rw[fD] at h<;>cases h
theorem Mb:SOr DI:=⟨fun a=>by
 cases h:DI a a with
 | false=>rfl
 | true=>exact absurd (rW.1 h) (zj a),fun h1 h2=>rW.2 (uZ (rW.1 h1) (rW.1 h2)),
 fun a b=>by
  rcases sE a b with h | h | h
  ·exact .inl (rW.2 h)
  ·exact .inr (.inl h)
  ·exact .inr (.inr (rW.2 h))⟩
structure wS (R S:List (Tw×Int)):Prop where
 srt:we DI R
 look:∀ k,iR k R=dU k S
 keys:∀ k,k∈R.map (·.1)↔k∈S.map (·.1)
theorem wS.nil:wS [] []:=⟨List.Pairwise.nil,fun _=>rfl,fun _=>Iff.rfl⟩
theorem Bf (k:Tw) (z:Int) (j:Tw):∀ S:List (Tw×Int),dU j (eZ k z S)=if j=k then some ((dU k S).getD 0+z) else dU j S
 | []=>by
  by_cases e:j=k
  ·rw[VH e];simp[eZ,dU,e]
  ·rw[VG e];simp[eZ,dU,e]
 | p::r=>by
  unfold eZ
  split
  ·rename_i h
   by_cases e:j=k
   ·rw[VH e]
    show (if j=k then some (p.2+z) else dU j r)=some (((if k=p.1 then some p.2 else dU k r)).getD 0+z)
    rw[VH e,VH h];rfl
   ·rw[VG e]
    show (if j=k then some (p.2+z) else dU j r)=(if j=p.1 then some p.2 else dU j r)
    rw[VG e,VG (fun e2=>e (e2.trans h.symm))]
  ·rename_i h
   show (if j=p.1 then some p.2 else dU j (eZ k z r))=_
   rw[Bf k z j r]
   by_cases e:j=k
   ·rw[VH e,VH e,VG (fun e2=>h (e.symm.trans e2))]
    show _=some (((if k=p.1 then some p.2 else dU k r)).getD 0+z)
    rw[VG h]
   ·rw[VG e,VG e];rfl
theorem KM (k:Tw) (z:Int) (x:Tw):∀ S:List (Tw×Int),x∈(eZ k z S).map (·.1)↔x=k∨x∈S.map (·.1)
 | []=>by simp[eZ]
 | p::r=>by
  unfold eZ
  split
  ·rename_i h
   simp only[Uf,Uk, ← h]
   constructor
   ·rintro (h | h)
    ·exact .inl h
    ·exact .inr (.inr h)
   ·rintro (h | h | h)
    ·exact .inl h
    ·exact .inl h
    ·exact .inr h
  ·rw[Uf,Uk,KM k z x r,Uf,Uk]
   constructor
   ·rintro (h | h | h)
    ·exact .inr (.inl h)
    ·exact .inl h
    ·exact .inr (.inr h)
   ·rintro (h | h | h)
    ·exact .inr (.inl h)
    ·exact .inl h
    ·exact .inr (.inr h)
theorem wS.add {R S:List (Tw×Int)} (h:wS R S) (k:Tw) (z:Int):wS (qm DI k z R) (eZ k z S):=
 ⟨KJ Mb h.srt,fun j=>by rw[Be Mb j h.srt,Bf,h.look,h.look],fun x=>by rw[Jg,KM,h.keys]⟩
theorem IF {S:List (Tw×Int)} (hnd:(S.map (·.1)).Nodup):(ksS S).Pairwise fun a b=>DI a b=true:=by
 have hs:(ksS S).Pairwise fun x y=>(!decide (dN y x<0))=true:=by
  refine UD ?_ ?_ _
  ·intro a b c h1 h2
   rw[Tb,Vz] at h1 h2 ⊢
   intro hca
   rcases sE b c with h | h | h
   ·exact h1 (uZ h hca)
   ·rw[h] at h1;exact h1 hca
   ·exact h2 h
  ·intro a b
   rw[Tf,Tb,Tb,Vz,Vz]
   rcases sE a b with h | h | h
   ·exact .inl fun h2=>zj _ (uZ h h2)
   ·rw[h];exact .inl (zj _)
   ·exact .inr fun h2=>zj _ (uZ h h2)
 have hn:(ksS S).Pairwise fun x y=>x≠y:=(xY S).nodup_iff.2 hnd
 refine (hs.and hn).imp ?_
 intro a b ⟨h1,h2⟩
 rw[Tb,Vz] at h1
 rcases sE a b with h | h | h
 ·exact rW.2 h
 ·exact absurd h h2
 ·exact absurd h h1
theorem wS.ks {R S:List (Tw×Int)} (h:wS R S) (hnd:(S.map (·.1)).Nodup):R.map (·.1)=ksS S:=by
 refine BV Mb ?_ (IF hnd) fun x=> ?_
 ·rw[UC];exact h.srt
 ·rw[h.keys,(xY S).mem_iff]
theorem P8 {R:List (Tw×Int)} (h:we DI R) {p:Tw×Int} (hp:p∈R):iR p.1 R=some p.2:=by
 induction R with
 | nil=>cases hp
 | cons q r ih=>
  unfold we at h
  rw[UA] at h
  unfold iR
  rcases Uk.1 hp with rfl | hp
  ·rw[VH rfl]
  ·rw[VG (fun e=>by have:=h.1 p hp;rw[e,Mb.irr] at this;cases this)]
   exact ih h.2 hp
theorem wS.val {R S:List (Tw×Int)} (h:wS R S) {p:Tw×Int} (hp:p∈R):gF S p.1=p.2:=by
 unfold gF
 rw[← h.look,P8 h.srt hp];rfl
end Go.Md
set_option linter.all false
set_option maxRecDepth 20000
namespace Go.Md
open Go.Dn
theorem Mo {l:List aa} (hl:l.length≤500):gY l=some (l,()):=by
 have FJ:maxLen=9223372036854775807:=rfl
 unfold gY
 have e:(chk (decide ((0+(List.length l))*72≤140737488355328)&&decide (0+(List.length l)≤maxLen)) (some (l,())))=some (l,()):=bz (by rw[SX];exact⟨VA (by omega),VA (by omega)⟩) _
 cases l with
 | nil=>
  rw[List.isEmpty_nil,Vx,e]
  exact CB _
 | cons a r=>rw[List.isEmpty_cons,Vw,e]
theorem Mn {l:List ah} (hl:l.length≤100):gC l=some (l,()):=by
 have FJ:maxLen=9223372036854775807:=rfl
 unfold gC
 have e:(chk (decide ((0+(List.length l))*64≤140737488355328)&&decide (0+(List.length l)≤maxLen)) (some (l,())))=some (l,()):=bz (by rw[SX];exact⟨VA (by omega),VA (by omega)⟩) _
 cases l with
 | nil=>
  rw[List.isEmpty_nil,Vx,e]
  exact CB _
 | cons a r=>rw[List.isEmpty_cons,Vw,e]
theorem sO {l:List aa} (hl:l.length≤500) (hps:∀ p∈l,Rr p):dF l=some (l,()):=by
 unfold dF
 rw[Mo hl,Vl]
 dsimp only
 have loop:∀ f,l.length<f→iter (X:=fG) (β:=iD) f ((l.length:Int),0,l,()) iC=some (Sum.inr (l,())):=by
  intro f hf
  refine cN (Inv:=fun i X=>X=(((l.length:Int),(i:Int),l,()):fG)) l.length (fun r=>r=some (Sum.inr (l,()))) ?_ ?_ f 0 _ rfl (Vk _) (by omega)
  ·rintro i X again hi rfl hag
   unfold iC
   dsimp only
   have hy:l[i]? =some l[i]:=TS hi
   rw[aO (by omega),bz (by rw[SX];exact⟨VA (by omega),VA (by omega)⟩),To,hy,Vl,Mn (hps _ (T6 hi)).n,Vl,bz (by rw[SX];exact⟨VA (by omega),VA (by omega)⟩),Vl,aR (n:=(i:Int)+1) (by omega) (by omega)]
   refine hag _ ?_
   have:l.set i ((l[i]).1,(l[i]).2.1,(l[i]).2.2.1,(l[i]).2.2.2)=l:=UG hi
   rw[this];rfl
  ·rintro X again rfl
   unfold iC
   dsimp only
   rw[aX (by omega)]
 rw[loop _ (by rw[Int.natAbs_natCast];omega),aZ]
theorem Kb (l:List ah) (hl:l.length≤9000000000000000000):gD l l=some (true,()):=by
 unfold gD
 rw[show (((l.length:Int)) != ((l.length:Int)))=false by simp,Vw]
 have loop:∀ f,l.length<f→iter (X:=dK) (β:=fk) f (l,l,(l.length:Int),0,()) fh=some (Sum.inr ()):=by
  intro f hf
  refine cN (Inv:=fun i X=>X=((l,l,(l.length:Int),(i:Int),()):dK)) l.length (fun r=>r=some (Sum.inr ())) ?_ ?_ f 0 _ rfl (by omega) (by omega)
  ·rintro i X again hi rfl hag
   unfold fh
   dsimp only
   have hy:l[i]? =some l[i]:=TS hi
   rw[aO (by omega),bL,hy,Vl,Vl]
   simp only[Vu,SZ,Td,Vw]
   rw[aR (by omega) (by omega)]
   exact hag _ rfl
  ·rintro X again rfl
   unfold fh
   dsimp only
   rw[aX (by omega)]
 rw[loop _ (by omega),aZ]
theorem I4 (l:List aa) (hl:l.length≤9000000000000000000) (hc:∀ q∈l,q.2.2.2.length≤9000000000000000000):oC l l=some (true,()):=by
 unfold oC
 rw[show (((l.length:Int)) != ((l.length:Int)))=false by simp,Vw]
 have loop:∀ f,l.length<f→iter (X:=iL) (β:=lH) f (l,l,(l.length:Int),0,()) lG=some (Sum.inr ()):=by
  intro f hf
  refine cN (Inv:=fun i X=>X=((l,l,(l.length:Int),(i:Int),()):iL)) l.length (fun r=>r=some (Sum.inr ())) ?_ ?_ f 0 _ rfl (by omega) (by omega)
  ·rintro i X again hi rfl hag
   unfold lG
   dsimp only
   have hy:l[i]? =some l[i]:=TS hi
   rw[aO (by omega),bL,hy,Vl,Vl]
   simp only[Vu,SZ,Td,Vw]
   rw[Kb _ (hc _ (T6 hi)),Vl]
   dsimp only
   rw[Td,Vw,aR (by omega) (by omega)]
   exact hag _ rfl
  ·rintro X again rfl
   unfold lG
   dsimp only
   rw[aX (by omega)]
 rw[loop _ (by omega),aZ]
theorem EV (l:List bw) (hl:l.length≤9000000000000000000):cF l l=some (true,()):=by
 unfold cF
 rw[show (((l.length:Int)) != ((l.length:Int)))=false by simp,Vw]
 have loop:∀ f,l.length<f→iter (X:=dY) (β:=gp) f (l,l,(l.length:Int),0,()) gm=some (Sum.inr ()):=by
  intro f hf
  refine cN (Inv:=fun i X=>X=((l,l,(l.length:Int),(i:Int),()):dY)) l.length (fun r=>r=some (Sum.inr ())) ?_ ?_ f 0 _ rfl (by omega) (by omega)
  ·rintro i X again hi rfl hag
   unfold gm
   dsimp only
   have hy:l[i]? =some l[i]:=TS hi
   rw[aO (by omega),bL,hy,Vl,Vl]
   simp only[Vu,SZ,Td,Vw]
   rw[aR (by omega) (by omega)]
   exact hag _ rfl
  ·rintro X again rfl
   unfold gm
   dsimp only
   rw[aX (by omega)]
 rw[loop _ (by omega),aZ]
theorem Ln (S:List (Tw×Int)):∀ (ks:List Tw) (l:List bw),mX S ks=some l→l.length≤ks.length
 | [],l,h=>by cases h;exact U0 _
 | k::r,l,h=>by
  unfold mX at h
  split at h
  ·obtain⟨l',h1,h2⟩:=Option.map_eq_some_iff.1 h
   have:=Ln S r l' h1
   rw[← h2]
   split
   ·simp;omega
   ·simp;omega
  ·cases h
theorem Qr (a:ak) (t:List UInt8):(je a t).1.length≤50000:=by
 unfold je
 split
 ·exact Vk _
 rename_i h
 split
 ·unfold zB
  split
  ·rename_i l hl
   have h1:=Ln _ _ l hl
   have hS:=xz (B:=wj a.2.2.2 t) (As (show cm a=0 by simpa using h)) a.2.2.2.length (U0 _)
   have h2:=hS.len
   have h3:=(gM (show cm a=0 by simpa using h)).len
   rw[(xY _).length_eq,Ua] at h1
   unfold Oh at h1
   dsimp only
   omega
  ·exact Vk _
 ·exact Vk _
theorem Re (a:ak) (hl:a.2.2.2.length≤9000000000000000000) (hc:∀ q∈a.2.2.2,q.2.2.2.length≤9000000000000000000):ur a a=some (true,()):=by
 unfold ur
 rw[show (a.1==a.1)=true by simp,show (a.2.1==a.2.1)=true by simp,show (a.2.2.1==a.2.2.1)=true by simp,Vx,Vx,Vx,I4 _ hl hc]
 rfl
theorem K1 {l:List ah} (hl:l.length≤1000):fM l=some (l,()):=by
 have FJ:maxLen=9223372036854775807:=rfl
 unfold fM
 have e:(chk (decide ((0+(List.length l))*64≤140737488355328)&&decide (0+(List.length l)≤maxLen)) (some (l,())))=some (l,()):=bz (by rw[SX];exact⟨VA (by omega),VA (by omega)⟩) _
 cases l with
 | nil=>
  rw[List.isEmpty_nil,Vx,e]
  exact CB _
 | cons a r=>rw[List.isEmpty_cons,Vw,e]
end Go.Md
set_option linter.all false
set_option maxRecDepth 20000
namespace Go.Md
open Go.Dn
theorem QL {a b:ah} (h:CF a b=0):ck a=ck b:=by
 unfold CF at h
 have h1:=eU h 0 _ rfl
 have h2:=eU h 1 _ rfl
 unfold ck
 rw[oQ.1 h1,oQ.1 h2]
theorem Ml (l:List ah) (c:ah) (hl:l.length<1000000000):
 ∃ (i:Nat) (b:Bool),bU l c ()=some ((i:Int),b,())∧i≤l.length∧(b=true→∃ y,l[i]? =some y∧ck y=ck c):=by
 unfold bU
 have loop:∀ f,l.length<f→∃ i:Nat,iter f ((l,(),(l.length:Int),(0:Int),(l.length:Int),c.1,c.2.1,c.2.2.1,c.2.2.2.1,c.2.2.2.2,()):bD) cz=some (Sum.inr (l,(),(l.length:Int),(i:Int),c.1,c.2.1,c.2.2.1,c.2.2.2.1,c.2.2.2.2,()))∧i≤l.length:=by
  intro f hf
  refine vz (Inv:=fun X=>∃ i j:Nat,X=((l,(),(l.length:Int),(i:Int),(j:Int),c.1,c.2.1,c.2.2.1,c.2.2.2.1,c.2.2.2.2,()):bD)∧i≤j∧j≤l.length)
   (fun X=>(X.2.2.2.2.1 - X.2.2.2.1).toNat)
   (fun _ r=>∃ i:Nat,r=some (Sum.inr (l,(),(l.length:Int),(i:Int),c.1,c.2.1,c.2.2.1,c.2.2.2.1,c.2.2.2.2,()))∧i≤l.length) ?_ f _ ⟨0,l.length,rfl,by omega,by omega⟩ (by dsimp only;omega)
  rintro _ again ⟨i,j,rfl,hij,hj⟩ ih
  dsimp only at ih
  unfold cz
  dsimp only
  by_cases hlt:i<j
  ·rw[aO (by omega)]
   have em:w64 (Int.fdiv (bK (w64 ((i:Int)+(j:Int)))) (2 ^ 1))=(((i+j) / 2:Nat):Int):=by
    rw[aR (n:=(i:Int)+(j:Int)) (by omega) (by omega),cK (by omega) (by omega),Th _ (by omega),aR (by omega) (by omega)]
    omega
   rw[em]
   have hm:(i+j) / 2<l.length:=by omega
   have hy:l[(i+j) / 2]? =some l[(i+j) / 2]:=aI hm
   have hmi:i≤(i+j) / 2∧(i+j) / 2<j:=by omega
   generalize (i+j) / 2=m at*
   generalize l[m]=y at hy
   rw[bL,hy,Vl,jC,Vl]
   dsimp only
   by_cases hc:CF y (c.1,c.2.1,c.2.2.1,c.2.2.2.1,c.2.2.2.2)<0
   ·rw[aO hc,aR (by omega) (by omega)]
    exact ih _ ⟨m+1,j,rfl,by omega,hj⟩ (by dsimp only;omega)
   ·rw[aX hc]
    exact ih _ ⟨i,m,rfl,by omega,by omega⟩ (by dsimp only;omega)
  ·rw[aX (by omega)]
   exact⟨i,rfl,by omega⟩
 obtain⟨i,h1,h2⟩:=loop (List.length l+(Int.natAbs ((List.length l:Int))+(Int.natAbs (0:Int)+(Int.natAbs ((List.length l:Int))+(c.1.length+(c.2.1.length+(c.2.2.1.length+(c.2.2.2.1.natAbs+(c.2.2.2.2.natAbs+2))))))))) (by omega)
 rw[h1,aZ]
 dsimp only
 by_cases hi:i<l.length
 ·have hy:l[i]? =some l[i]:=aI hi
  rw[aO (by omega),bL,hy,Vl,jC,Vl]
  dsimp only
  refine⟨i,_,rfl,h2,fun hb=>⟨_,hy, ?_⟩⟩
  have:=QL (a:=l[i]) (b:=(c.1,c.2.1,c.2.2.1,c.2.2.2.1,c.2.2.2.2)) (by simpa using hb)
  exact this
 ·rw[aX (by omega)]
  exact⟨i,false,rfl,h2,fun h=>by cases h⟩
def sk (k:Tw) (l:List ah):Int:=(l.map fun c=>if ck c=k then v9 c.2.2.2 else 0).sum
theorem JP (k:Tw) (a b:List ah):sk k (a++b)=sk k a+sk k b:=by
 unfold sk
 rw[List.map_append,List.sum_append]
theorem I6 (k:Tw) (c:ah) (r:List ah):sk k (c::r)=(if ck c=k then v9 c.2.2.2 else 0)+sk k r:=by
 unfold sk
 rw[Uf,UJ]
theorem Bz {α:Type} (f:α→Int):∀ {l:List α} {k:Nat} {y:α},l[k]? =some y→∀ y',((l.set k y').map f).sum=(l.map f).sum - f y+f y'
 | [],k,y,h,_=>by simp at h
 | x::r,0,y,h,y'=>by
  cases h
  simp only[List.set_cons_zero,Uf,UJ];omega
 | x::r,k+1,y,h,y'=>by
  have:=Bz f (l:=r) (k:=k) (y:=y) (by simpa using h) y'
  simp only[List.set_cons_succ,Uf,UJ];omega
theorem F8 {α:Type} (f:α→Int):∀ {l:List α} {k:Nat} {y:α},l[k]? =some y→((l.take k++l.drop (k+1)).map f).sum=(l.map f).sum - f y
 | [],k,y,h=>by simp at h
 | x::r,0,y,h=>by
  cases h
  simp only[List.take_zero,Ux,TF,TG,Uf,UJ];omega
 | x::r,k+1,y,h=>by
  have:=F8 f (l:=r) (k:=k) (y:=y) (by simpa using h)
  simp only[UO,Tx,TF,Uf,UJ];omega
def QE (d:aj):Prop:=0≤d.2∧d.2≤3∧0≤d.1∧d.1≤1000000000000001
def mxP (a b:aj):Int:=if b.2>a.2 then b.2 else a.2
theorem RP {n:Nat} (h:n≤3):(1:Int)≤10 ^ n∧(10:Int) ^ n≤1000:=by
 match n,h with
 | 0,_=>exact⟨by decide,by decide⟩
 | 1,_=>exact⟨by decide,by decide⟩
 | 2,_=>exact⟨by decide,by decide⟩
 | 3,_=>exact⟨by decide,by decide⟩
theorem QH (d:aj) (p:Int) (h0:0≤d.2) (h:d.2≤p) (hp:p≤3):d.1*10 ^ (p - d.2).toNat*10 ^ (9 - p).toNat=v9 d:=by
 unfold v9
 rw[Tk, ← Int.pow_add,show (p - d.2).toNat+(9 - p).toNat=(9 - d.2).toNat by omega]
theorem Ss {M:List ah} (hM:∀ c∈M,QE c.2.2.2) {j:Nat} {y c:ah} (hy:M[j]? =some y) (hk:ck y=ck c) (hc:QE c.2.2.2):
 ∃ z:Int,dG y.2.2.2 (mxP y.2.2.2 c.2.2.2)=some (W (y.2.2.2.1*10 ^ (mxP y.2.2.2 c.2.2.2 - y.2.2.2.2).toNat),())∧dG c.2.2.2 (mxP y.2.2.2 c.2.2.2)=some (W (c.2.2.2.1*10 ^ (mxP y.2.2.2 c.2.2.2 - c.2.2.2.2).toNat),())∧
  eW (W (y.2.2.2.1*10 ^ (mxP y.2.2.2 c.2.2.2 - y.2.2.2.2).toNat)) (W (c.2.2.2.1*10 ^ (mxP y.2.2.2 c.2.2.2 - c.2.2.2.2).toNat))=some (W z,())∧0≤z∧y.2.2.2.1≤z∧0≤mxP y.2.2.2 c.2.2.2∧mxP y.2.2.2 c.2.2.2≤3∧v9 (z,mxP y.2.2.2 c.2.2.2)=v9 y.2.2.2+v9 c.2.2.2:=by
 obtain⟨a1,a2,a3,a4⟩:=hM y (Uq hy)
 obtain⟨b1,b2,b3,b4⟩:=hc
 have hp:y.2.2.2.2≤mxP y.2.2.2 c.2.2.2∧c.2.2.2.2≤mxP y.2.2.2 c.2.2.2∧mxP y.2.2.2 c.2.2.2≤3∧0≤mxP y.2.2.2 c.2.2.2:=by
  unfold mxP
  split<;>omega
 generalize hpe:mxP y.2.2.2 c.2.2.2=p at*
 obtain⟨p1,p2,p3,p4⟩:=hp
 have e1:=RP (n:=(p - y.2.2.2.2).toNat) (by omega)
 have e2:=RP (n:=(p - c.2.2.2.2).toNat) (by omega)
 have u1:=QH y.2.2.2 p a1 p1 p3
 have u2:=QH c.2.2.2 p b1 p2 p3
 generalize hA:(10:Int) ^ (p - y.2.2.2.2).toNat=A at*
 generalize hB:(10:Int) ^ (p - c.2.2.2.2).toNat=B at*
 have n1:y.2.2.2.1≤y.2.2.2.1*A:=by
  have:=Tl e1.1 a3
  omega
 have n2:y.2.2.2.1*A≤y.2.2.2.1*1000:=Tl e1.2 a3
 have n3:0≤c.2.2.2.1*B:=Tm b3 (by omega)
 have n4:c.2.2.2.1*B≤c.2.2.2.1*1000:=Tl e2.2 b3
 refine⟨y.2.2.2.1*A+c.2.2.2.1*B, ?_, ?_,qB _ _ (D5 (by omega)) (D5 (by omega)),by omega,by omega,p4,p3, ?_⟩
 ·rw[← hA];exact rF _ p (by omega) (by omega) (by omega) (by omega) ⟨by omega,by omega⟩
 ·rw[← hB];exact rF _ p (by omega) (by omega) (by omega) (by omega) ⟨by omega,by omega⟩
 ·rw[← u1, ← u2, ← Int.add_mul]
  rfl
def Ci (M:List ah):Prop:=∀ c∈M,c.2.2.2.1≤1000000000000000
theorem Qj {cs:List ah} (hcl:cs.length≤1000) (hcs:∀ c∈cs,QE c.2.2.2):
 ∀ (r:List ah) (i f:Nat) (M:List ah),cs.drop i=r→i≤cs.length→r.length<f→M.length≤1000+i→(∀ c∈M,QE c.2.2.2)→
  ∃ M',iter (X:=ja) (β:=iZ) f (M,cs,(cs.length:Int),(i:Int),()) fL=some (Sum.inr (M',()))∧(Ci M'→Ci M∧∀ k,sk k M'=sk k M+sk k r):=by
 intro r
 induction r with
 | nil=>
  intro i f M hdr hi hf hMl hM
  have:i=cs.length:=by
   have:=congrArg List.length hdr
   simp at this;omega
  obtain⟨f,rfl⟩:∃ m,f=m+1:=⟨f - 1,by omega⟩
  refine⟨M, ?_,fun h=>⟨h,fun k=>by rw[show sk k []=0 from rfl];omega⟩⟩
  rw[fZ]
  unfold fL
  dsimp only
  rw[aX (by omega)]
 | cons c r ih=>
  intro i f M hdr hi hf hMl hM
  have hx:cs[i]? =some c:=by
   have:=congrArg (·[0]?) hdr
   simpa [TR] using this
  have hr':cs.drop (i+1)=r:=by
   have:=congrArg List.tail hdr
   simpa [List.tail_drop] using this
  have hlt:=(TU.1 hx).1
  have hc:=hcs c (Uq hx)
  obtain⟨f,rfl⟩:∃ m,f=m+1:=⟨f - 1,by simp at hf;omega⟩
  simp only[T8] at hf
  obtain⟨j,b,g1,g2,g3⟩:=Ml M c (by omega)
  have step:∀ M1:List ah,M1.length≤1000+(i+1)→(∀ c∈M1,QE c.2.2.2)→(Ci M1→Ci M∧∀ k,sk k M1=sk k M+(if ck c=k then v9 c.2.2.2 else 0))→
   iter (X:=ja) (β:=iZ) (f+1) (M,cs,(cs.length:Int),(i:Int),()) fL=iter (X:=ja) (β:=iZ) f (M1,cs,(cs.length:Int),((i+1:Nat):Int),()) fL→
   ∃ M',iter (X:=ja) (β:=iZ) (f+1) (M,cs,(cs.length:Int),(i:Int),()) fL=some (Sum.inr (M',()))∧(Ci M'→Ci M∧∀ k,sk k M'=sk k M+sk k (c::r)):=by
   intro M1 q1 q2 q3 q4
   obtain⟨M',k1,k2⟩:=ih (i+1) f M1 hr' (by omega) (by omega) q1 q2
   refine⟨M',by rw[q4];exact k1,fun h=> ?_⟩
   obtain⟨e1,e2⟩:=k2 h
   obtain⟨e3,e4⟩:=q3 e1
   refine⟨e3,fun k=> ?_⟩
   rw[e2,e4,I6];omega
  cases b with
  | false=>
   refine step (M.take j++c::M.drop j) ?_ ?_ ?_ ?_
   ·simp;omega
   ·intro x hx'
    rcases Uh.1 hx' with h | h
    ·exact hM x (Us h)
    ·rcases Uk.1 h with rfl | h
     ·exact hc
     ·exact hM x (Ur h)
   ·intro he
    refine⟨fun x hx'=> ?_,fun k=> ?_⟩
    ·rw[← UK j M] at hx'
     rcases Uh.1 hx' with h | h
     ·exact he x (Ui _ h)
     ·exact he x (Uj _ (Ul _ h))
    ·have e:sk k M=sk k (M.take j)+sk k (M.drop j):=by rw[← JP,UK]
     rw[JP,I6,e];omega
   ·rw[fZ]
    unfold fL
    dsimp only
    have hins:jG M (j:Int) [c]=some (M.take j++c::M.drop j,()):=by
     show w8 64 _ _ _=_
     unfold w8
     rw[show (decide (0≤(j:Int))&&(decide ((j:Int)≤(M.length:Int))&&(decide (0<[c].length)&&(decide ((M.length+[c].length)*64≤140737488355328)&&decide (M.length+[c].length≤4611686018427387904)))))=true by
      simp only[SX,VB,List.length_singleton]
      omega]
     rw[Vx,To]
     rfl
    rw[aO (by omega),bL,hx,Vl,g1,Vl]
    dsimp only
    rw[Tc,Vx,hins,Vl]
    dsimp only
    rw[aR (n:=(i:Int)+1) (by omega) (by omega),show (i:Int)+1=((i+1:Nat):Int) by omega]
  | true=>
   obtain⟨y,hy,hky⟩:=g3 rfl
   have hjl:=(TU.1 hy).1
   obtain⟨z,s1,s2,s3,z0,zy,p0,p3,hv⟩:=Ss hM hy hky hc
   have hset:∀ q:aj,QE q→∀ x∈M.set j (y.1,y.2.1,y.2.2.1,q),QE x.2.2.2:=by
    intro q hq x hx'
    rcases Ut hx' with h | h
    ·exact hM x h
    ·rw[h];exact hq
   by_cases hz:z.natAbs≤1000000000000000
   ·refine step (M.set j (y.1,y.2.1,y.2.2.1,(z,mxP y.2.2.2 c.2.2.2))) (by rw[Uc];omega) (hset _ ⟨p0,p3,by dsimp only;omega,by dsimp only;omega⟩) ?_ ?_
    ·intro he
     refine⟨fun x hx'=> ?_,fun k=> ?_⟩
     ·obtain⟨n,hn⟩:=Uo.1 hx'
      by_cases hnj:n=j
      ·subst hnj
       rw[hy] at hn;cases hn
       omega
      ·refine he x (Uq (i:=n) ?_)
       rw[TY (fun e=>hnj e.symm)];exact hn
     ·unfold sk
      rw[Bz _ hy]
      dsimp only
      have e:ck (y.1,y.2.1,y.2.2.1,(z,mxP y.2.2.2 c.2.2.2))=ck y:=rfl
      rw[e,hky]
      by_cases hkk:ck c=k
      ·rw[VH hkk,VH hkk,VH hkk,hv];omega
      ·rw[VG hkk,VG hkk,VG hkk];omega
    ·rw[fZ]
     unfold fL
     dsimp only
     rw[aO (by omega),bL,hx,Vl,g1,Vl]
     dsimp only
     rw[Td,Vw,bz (by rw[SX];exact⟨VA (by omega),VA (by omega)⟩),To,hy,Vl,bz (by rw[SX];exact⟨VA (by omega),VA (by omega)⟩),Vl]
     rw[show (if c.2.2.2.2>y.2.2.2.2 then c.2.2.2.2 else y.2.2.2.2)=mxP y.2.2.2 c.2.2.2 from rfl,s1,Vl,s2,Vl]
     dsimp only
     rw[s3,Vl]
     dsimp only
     rw[tK,VH hz,Vl]
     dsimp only
     rw[show ((0:Int) != 0)=false from rfl,Vw,bz (by rw[SX];exact⟨VA (by omega),VA (by omega)⟩),Vl,aR (n:=(i:Int)+1) (by omega) (by omega),show (i:Int)+1=((i+1:Nat):Int) by omega]
   ·refine step (M.set j (y.1,y.2.1,y.2.2.1,(1000000000000001,mxP y.2.2.2 c.2.2.2))) (by rw[Uc];omega) (hset _ ⟨p0,p3,by dsimp only;omega,by dsimp only;omega⟩) ?_ ?_
    ·intro he
     have hb:=he (y.1,y.2.1,y.2.2.1,(1000000000000001,mxP y.2.2.2 c.2.2.2)) (Uq (i:=j) (by rw[TZ hjl]))
     dsimp only at hb
     omega
    ·rw[fZ]
     unfold fL
     dsimp only
     rw[aO (by omega),bL,hx,Vl,g1,Vl]
     dsimp only
     rw[Td,Vw,bz (by rw[SX];exact⟨VA (by omega),VA (by omega)⟩),To,hy,Vl,bz (by rw[SX];exact⟨VA (by omega),VA (by omega)⟩),Vl]
     rw[show (if c.2.2.2.2>y.2.2.2.2 then c.2.2.2.2 else y.2.2.2.2)=mxP y.2.2.2 c.2.2.2 from rfl,s1,Vl,s2,Vl]
     dsimp only
     rw[s3,Vl]
     dsimp only
     rw[tK,VG hz,Vl]
     dsimp only
     rw[show ((1:Int) != 0)=true from rfl,Vx,bz (by rw[SX];exact⟨VA (by omega),VA (by omega)⟩),Vl,aR (n:=(i:Int)+1) (by omega) (by omega),show (i:Int)+1=((i+1:Nat):Int) by omega]
theorem put_eq {M cs:List ah} (hMl:M.length≤1000) (hM:∀ c∈M,QE c.2.2.2) (hcl:cs.length≤1000) (hcs:∀ c∈cs,QE c.2.2.2):∃ M',xb M cs=some (M',())∧(Ci M'→∀ k,sk k M'=sk k M+sk k cs):=by
 unfold xb
 rw[K1 hMl,Vl]
 dsimp only
 obtain⟨M',h1,h2⟩:=Qj hcl hcs cs 0 (List.length M+(List.length cs+(Int.natAbs ((List.length cs:Int))+(Int.natAbs (0:Int)+2)))) M rfl (Vk _) (by omega) (by omega) hM
 rw[show ((0:Nat):Int)=0 from rfl] at h1
 rw[h1,aZ]
 exact⟨M',rfl,fun h=>(h2 h).2⟩
end Go.Md
set_option linter.all false
set_option maxRecDepth 20000
namespace Go.Md
open Go.Dn
theorem PG (k:Tw) (z:Int) (j:Tw) (S:List (Tw×Int)):gF (eZ k z S) j=gF S j+if k=j then z else 0:=by
 unfold gF
 rw[Bf]
 by_cases h:j=k
 ·rw[VH h,VH h.symm,h];rfl
 ·rw[VG h,VG (fun e=>h e.symm)];omega
theorem JT (j:Tw):∀ (cs:List ah) (S:List (Tw×Int)),gF (uF S cs) j=gF S j+sk j cs
 | [],S=>by rw[show sk j []=0 from rfl];show gF S j=_;omega
 | c::r,S=>by
  have h:=JT j r (eZ (ck c) (v9 c.2.2.2) S)
  show gF (uF (eZ (ck c) (v9 c.2.2.2) S) r) j=_
  rw[h,PG,I6];omega
def KK (j:Tw) (l:List aa):Int:=(l.map fun q=>sk j q.2.2.2).sum
theorem Me (j:Tw) (l:List aa):gF (Oh l []) j=KK j l:=by
 have h:∀ i,i≤l.length→gF (uG (wj l []) l i) j=KK j (l.take i):=by
  intro i
  induction i with
  | zero=>intro _;rfl
  | succ i ih=>
   intro hi
   have hy:l[i]? =some l[i]:=TS (by omega)
   simp only[uG]
   rw[VH (show wj l [] i=true by unfold wj;rw[VH rfl]),hy,List.take_add_one,hy]
   show gF (uF _ l[i].2.2.2) j=_
   rw[JT,ih (by omega)]
   unfold KK
   rw[List.map_append,List.sum_append]
   simp
 have:=h l.length (U0 _)
 rw[List.take_length] at this
 exact this
theorem zA (S:List (Tw×Int)):∀ ks:List Tw,mX S (ks.filter fun k=> !(gF S k==0))=mX S ks
 | []=>rfl
 | k::r=>by
  have ih:=zA S r
  rw[List.filter_cons]
  by_cases h:gF S k=0
  ·rw[show (!(gF S k==0))=false by simpa using h,VG (by simp),ih]
   conv=>rhs;unfold mX
   have h0:(few 9 (0:Int)).1=0:=by rw[Lj]
   rw[h,show okD 0=true by unfold okD;rw[h0];rfl,VH rfl,h0]
   simp
  ·rw[show (!(gF S k==0))=true by simpa using h,VH rfl]
   unfold mX
   rw[ih]
theorem GU {S S':List (Tw×Int)} (h:∀ k,gF S k=gF S' k):∀ ks:List Tw,mX S ks=mX S' ks
 | []=>rfl
 | k::r=>by
  unfold mX
  rw[GU h r,h]
theorem Mc {S:List (Tw×Int)} {k:Tw} (h:gF S k≠0):k∈ksS S:=by
 unfold gF at h
 cases e:dU k S with
 | none=>rw[e] at h;exact absurd rfl h
 | some b=>exact (xY S).mem_iff.2 (Up.2 ⟨_,za e,rfl⟩)
theorem NH {S S':List (Tw×Int)} (hn:(S.map (·.1)).Nodup) (hn':(S'.map (·.1)).Nodup) (h:∀ k,gF S k=gF S' k):zB S=zB S':=by
 unfold zB
 have e:mX S (ksS S)=mX S' (ksS S'):=by
  rw[← zA S, ← zA S' (ksS S'),GU h]
  have:((ksS S).filter fun k=> !(gF S k==0))=(ksS S').filter fun k=> !(gF S' k==0):=by
   refine BV Mb ((IF hn).sublist List.filter_sublist) ((IF hn').sublist List.filter_sublist) fun x=> ?_
   rw[List.mem_filter,List.mem_filter,h]
   constructor
   ·rintro⟨_,g⟩
    exact⟨Mc (by simpa using g),g⟩
   ·rintro⟨_,g⟩
    exact⟨Mc (by rw[h];simpa using g),g⟩
  rw[this]
 rw[e]
theorem L8 {a:ak} (h:cm a=0):je a []=zB (Oh a.2.2.2 []):=by
 unfold je
 rw[VG (by simpa using h),VH (.inl rfl)]
theorem L9 {a x:ak} (h:cm a=0) (hx:cm x=0) (hk:∀ j,KK j x.2.2.2=KK j a.2.2.2):je x []=je a []:=by
 rw[L8 h,L8 hx]
 have h1:=xz (B:=wj a.2.2.2 []) (As h) a.2.2.2.length (U0 _)
 have h2:=xz (B:=wj x.2.2.2 []) (As hx) x.2.2.2.length (U0 _)
 exact NH h2.nd h1.nd fun k=>by rw[Me,Me,hk]
theorem Q4 {s:List UInt8} (h:lbl s=true):s≠[]:=fun e=>by
 unfold lbl at h
 simp only[SX,VB] at h
 have:=h.1
 rw[e] at this;cases this
theorem O1 {a:ak} (h:cm a=0):∀ p∈a.2.2.2,p.1≠[]:=by
 unfold cm at h
 split at h
 ·omega
 split at h
 ·omega
 split at h
 ·omega
 split at h
 ·omega
 split at h
 ·omega
 have h3:eA (kC a.2.2.2) 0 a.2.2.2=0:=by omega
 intro p hp
 obtain⟨i,hi⟩:=Uo.1 hp
 have:=eU h3 i p hi
 unfold kC at this
 split at this
 ·omega
 rename_i h1
 exact Q4 (by simpa using h1)
theorem uc (t:List UInt8) (l:List aa):dn (fun x:aa=>x.1) t l=(l.map (·.1)).findIdx? (· ==t):=by
 unfold dn
 rw[List.findIdx?_map];rfl
theorem FM {l:List aa} {i:Nat} {p:aa} (hp:l[i]? =some p) (q:List UInt8×aj×List ah):(l.set i (p.1,q)).map (·.1)=l.map (·.1):=by
 apply TJ
 intro n
 rw[TV,TV,TX]
 split
 ·rename_i h
  subst h
  have hi:=(TU.1 hp).1
  rw[VH hi,hp];rfl
 ·rfl
theorem Q6 {l:List aa} {i:Nat} {p:aa} (hp:l[i]? =some p) (q:List UInt8×aj×List ah) {j:Nat} (hj:j≠i):par (l.set i (p.1,q)) j=par l j:=by
 unfold par
 rw[TY (fun e=>hj e.symm)]
 cases l[j]? with
 | none=>rfl
 | some y=>
  dsimp only
  rw[uc,uc,FM hp]
theorem KO {f g:Nat→Option Nat} {i:Nat} (h:∀ j,j≠i→f j=g j):∀ (n j:Nat),j≠i→i∉anc g n j→anc f n j=anc g n j
 | 0,_,_,_=>rfl
 | n+1,j,hj,hi=>by
  cases hg:g j with
  | none=>rw[xF hg,xF ((h j hj).trans hg)]
  | some k=>
   rw[oN hg] at hi ⊢
   rw[oN ((h j hj).trans hg)]
   rw[Uk,VL] at hi
   rw[KO h n k (fun e=>hi.1 e.symm) hi.2]
theorem PA {l:List aa} {i:Nat} {p:aa} (hp:l[i]? =some p) (q:List UInt8):∀ j,KK j (l.set i (p.1,q,p.2.2))=KK j l:=fun j=>by
 unfold KK
 rw[Bz _ hp]
 dsimp only
 omega
theorem oM.set {a:ak} (hf:oM a) {i:Nat} {p:aa} (hp:a.2.2.2[i]? =some p) (q:List UInt8×aj×List ah):oM (a.1,a.2.1,a.2.2.1,a.2.2.2.set i (p.1,q)):=by
 intro x hx
 rcases Ut hx with h | h
 ·exact hf x h
 ·rw[h];exact hf p (Uq hp)
def KG (l:List aa) (i:Nat) (to:List UInt8):Prop:=to=[]∨∃ k,dn (fun x:aa=>x.1) to l=some k∧k≠i∧i∉fA l k
theorem ME (a:ak) (hf:oM a) (h:cm a=0) (t to:List UInt8):
 (∃ e,e≠0∧eG a t to=some (([],[],0,[]),e,()))∨
 ∃ i p,dn (fun x:aa=>x.1) t a.2.2.2=some i∧a.2.2.2[i]? =some p∧KG a.2.2.2 i to∧cm (a.1,a.2.1,a.2.2.1,a.2.2.2.set i (p.1,to,p.2.2))=0∧eG a t to=some ((a.1,a.2.1,a.2.2.1,a.2.2.2.set i (p.1,to,p.2.2)),0,()):=by
 have hok:=gM h
 have hl:=hok.len
 unfold eG
 rw[jD a hf,Vl,VG (by simpa using h)]
 dsimp only
 cases hT:dn (fun x:aa=>x.1) t a.2.2.2 with
 | none=>exact .inl ⟨9,by decide,rfl⟩
 | some i=>
 rw[show (Option.isSome (some i))=true from rfl,VH rfl,show ((0:Int) != 0)=false from rfl,Vw]
 obtain⟨i',k1,k2⟩:=b7 a t (by omega) hok.asc
 rw[k1,Vl,k2 i hT]
 dsimp only
 obtain⟨p,hp,hpt⟩:=ff hT
 have hi:=(TU.1 hp).1
 have fin:KG a.2.2.2 i to→
  (∃ e,e≠0∧(Option.bind (dF a.2.2.2) fun r6=>
  chk (decide (0≤(i:Int))&&decide ((i:Int)<(r6.1.length:Int))) <|
  Option.bind (r6.1[(i:Int).toNat]?) fun y7=>
  Option.bind (b6 (a.1,a.2.1,a.2.2.1,List.set r6.1 (i:Int).toNat (y7.1,to,y7.2.2))) fun r8=>
  bif r8.1 != 0 then
   some (([],[],0,[]),r8.1,())
  else
   some ((a.1,a.2.1,a.2.2.1,List.set r6.1 (i:Int).toNat (y7.1,to,y7.2.2)),0,()))=some (([],[],0,[]),e,()))∨
   ∃ i_1 p,some i=some i_1∧a.2.2.2[i_1]? =some p∧KG a.2.2.2 i_1 to∧cm (a.1,a.2.1,a.2.2.1,a.2.2.2.set i_1 (p.1,to,p.2.2))=0∧(Option.bind (dF a.2.2.2) fun r6=>
  chk (decide (0≤(i:Int))&&decide ((i:Int)<(r6.1.length:Int))) <|
  Option.bind (r6.1[(i:Int).toNat]?) fun y7=>
  Option.bind (b6 (a.1,a.2.1,a.2.2.1,List.set r6.1 (i:Int).toNat (y7.1,to,y7.2.2))) fun r8=>
  bif r8.1 != 0 then
   some (([],[],0,[]),r8.1,())
  else
   some ((a.1,a.2.1,a.2.2.1,List.set r6.1 (i:Int).toNat (y7.1,to,y7.2.2)),0,()))=some ((a.1,a.2.1,a.2.2.1,a.2.2.2.set i_1 (p.1,to,p.2.2)),0,()):=by
  intro hgo
  rw[sO hl (sB h),Vl]
  dsimp only
  rw[bz (by rw[SX];exact⟨VA (by omega),VA (by omega)⟩),To,hp,Vl,eo _ (hf.set hp (to,p.2.2)),Vl]
  dsimp only
  by_cases h2:cm (a.1,a.2.1,a.2.2.1,a.2.2.2.set i (p.1,to,p.2.2))=0
  ·rw[h2,show ((0:Int) != 0)=false from rfl,Vw]
   exact .inr ⟨i,p,rfl,hp,hgo,h2,rfl⟩
  ·rw[show (cm (a.1,a.2.1,a.2.2.1,a.2.2.2.set i (p.1,to,p.2.2)) != 0)=true by simpa using h2,Vx]
   exact .inl ⟨_,h2,rfl⟩
 by_cases h0:to=[]
 ·rw[show (to==[])=true by simpa using h0,Td,Vw,aZ]
  exact fin (.inl h0)
 ·rw[show (to==[])=false by simpa using h0,Tc,Vx]
  obtain⟨k',m1,m2⟩:=b7 a to (by omega) hok.asc
  rw[m1,Vl]
  dsimp only
  cases hK:dn (fun x:aa=>x.1) to a.2.2.2 with
  | none=>exact .inl ⟨9,by decide,rfl⟩
  | some k=>
   rw[m2 k hK]
   obtain⟨pk,hpk,_⟩:=ff hK
   have hkl:=(TU.1 hpk).1
   rw[show (Option.isSome (some k))=true from rfl,Td,Vw]
   by_cases hki:k=i
   ·rw[hki,show (((i:Nat):Int)==(i:Int))=true by simp,Vx]
    exact .inl ⟨17,by decide,rfl⟩
   ·rw[show (((k:Nat):Int)==(i:Int))=false by rw[Vt];omega,Vw,o9 hok hkl hT,Vl]
    dsimp only
    by_cases hw:i∈fA a.2.2.2 k
    ·rw[VA hw,Vx]
     exact .inl ⟨17,by decide,rfl⟩
    ·rw[Vy hw,Vw,aZ]
     exact fin (.inr ⟨k,hK,hki,hw⟩)
theorem Qb {a:ak} (hf:oM a) (h:cm a=0) {t to:List UInt8} {i:Nat} {p:aa} (hT:dn (fun x:aa=>x.1) t a.2.2.2=some i) (hp:a.2.2.2[i]? =some p) (hgo:KG a.2.2.2 i to) (h2:cm (a.1,a.2.1,a.2.2.1,a.2.2.2.set i (p.1,to,p.2.2))=0):
 eG a t to=some ((a.1,a.2.1,a.2.2.1,a.2.2.2.set i (p.1,to,p.2.2)),0,()):=by
 have hok:=gM h
 have hl:=hok.len
 unfold eG
 rw[jD a hf,Vl,VG (by simpa using h)]
 dsimp only
 rw[hT,show (Option.isSome (some i))=true from rfl,VH rfl,show ((0:Int) != 0)=false from rfl,Vw]
 obtain⟨i',k1,k2⟩:=b7 a t (by omega) hok.asc
 rw[k1,Vl,k2 i hT]
 dsimp only
 have hi:=(TU.1 hp).1
 have fin:(Option.bind (dF a.2.2.2) fun r6=>
  chk (decide (0≤(i:Int))&&decide ((i:Int)<(r6.1.length:Int))) <|
  Option.bind (r6.1[(i:Int).toNat]?) fun y7=>
  Option.bind (b6 (a.1,a.2.1,a.2.2.1,List.set r6.1 (i:Int).toNat (y7.1,to,y7.2.2))) fun r8=>
  bif r8.1 != 0 then
   some (([],[],0,[]),r8.1,())
  else
   some ((a.1,a.2.1,a.2.2.1,List.set r6.1 (i:Int).toNat (y7.1,to,y7.2.2)),0,()))=some ((a.1,a.2.1,a.2.2.1,a.2.2.2.set i (p.1,to,p.2.2)),0,()):=by
  rw[sO hl (sB h),Vl]
  dsimp only
  rw[bz (by rw[SX];exact⟨VA (by omega),VA (by omega)⟩),To,hp,Vl,eo _ (hf.set hp (to,p.2.2)),Vl]
  dsimp only
  rw[h2,show ((0:Int) != 0)=false from rfl,Vw]
 rcases hgo with h0 | ⟨k,hK,hki,hw⟩
 ·rw[show (to==[])=true by simpa using h0,Td,Vw,aZ]
  exact fin
 ·have h0:to≠[]:=fun e=>by
   obtain⟨pk,hpk,e2⟩:=ff hK
   exact O1 h pk (Uq hpk) (e2.trans e)
  rw[show (to==[])=false by simpa using h0,Tc,Vx]
  obtain⟨k',m1,m2⟩:=b7 a to (by omega) hok.asc
  rw[m1,Vl]
  dsimp only
  rw[m2 k hK,hK]
  obtain⟨pk,hpk,_⟩:=ff hK
  have hkl:=(TU.1 hpk).1
  rw[show (Option.isSome (some k))=true from rfl,Td,Vw,show (((k:Nat):Int)==(i:Int))=false by rw[Vt];omega,Vw,o9 hok hkl hT,Vl]
  dsimp only
  rw[Vy hw,Vw,aZ]
  exact fin
end Go.Md
set_option linter.all false
set_option maxRecDepth 20000
namespace Go.Md
open Go.Dn
theorem HD {d:aj} {z:Bool} (h:qOk d z=true):0≤d.1:=by
 unfold qOk inR at h
 simp only[SX,VB] at h
 have h3:=h.1.2.2.1
 rw[Int.zero_mul] at h3
 exact h3
structure PaN (p:aa):Prop where
 t:0≤p.2.2.1.1
 c:∀ c∈p.2.2.2,0≤c.2.2.2.1
theorem RO {a:ak} (h:cm a=0):∀ p∈a.2.2.2,PaN p:=by
 unfold cm at h
 split at h
 ·omega
 split at h
 ·omega
 split at h
 ·omega
 split at h
 ·omega
 split at h
 ·omega
 have h3:eA (kC a.2.2.2) 0 a.2.2.2=0:=by omega
 intro p hp
 obtain⟨i,hi⟩:=Uo.1 hp
 have:=eU h3 i p hi
 unfold kC at this
 split at this
 ·omega
 split at this
 ·omega
 split at this
 ·omega
 rename_i hq
 refine⟨HD (z:=true) (by simpa using hq), ?_⟩
 unfold vg at this
 split at this
 ·omega
 intro c hc
 obtain⟨j,hj⟩:=Uo.1 hc
 have:=eU this j c hj
 unfold DP at this
 split at this
 ·omega
 split at this
 ·omega
 split at this
 ·omega
 split at this
 ·omega
 split at this
 ·rename_i hq;exact HD hq
 ·omega
theorem N6 {a:ak} (h:cm a=0):∀ p∈a.2.2.2,∀ c∈p.2.2.2,QE c.2.2.2∧c.2.2.2.1≤1000000000000000:=by
 intro p hp c hc
 have h1:=(sB h p hp).c c hc
 have h2:=(RO h p hp).2 c hc
 have h3:=h1.dec
 have h4:=h1.pl
 unfold er at h3
 exact⟨⟨h3.2.1,h4,h2,by omega⟩,by omega⟩
theorem QV {a:ak} (h:cm a=0) {i:Nat} {p:aa} (hp:a.2.2.2[i]? =some p) (q:List UInt8×aj×List ah):KG (a.2.2.2.set i (p.1,q)) i p.2.1:=by
 have hok:=gM h
 have hi:=(TU.1 hp).1
 rcases D2 hok.n1 hp with ⟨h1,_⟩ | ⟨h1,k,h2,h3⟩
 ·exact .inl h1
 ·right
  have hs:=u7 hok.nl hi h2
  have hnd:=AM hok.nl hi
  rw[hs,Uy,Uk,VL] at hnd
  refine⟨k, ?_,fun e=>hnd.1.1 e.symm, ?_⟩
  ·rw[uc,FM hp, ← uc];exact h3
  ·unfold fA
   rw[Uc,KO (g:=par a.2.2.2) (i:=i) (fun j hj=>Q6 hp q hj) _ _ (fun e=>hnd.1.1 e.symm) hnd.1.2]
   exact hnd.1.2
theorem QU {a:ak} (h:cm a=0) {i:Nat} {p:aa} (hp:a.2.2.2[i]? =some p):
 (p.2.1=[]∧((i::fA a.2.2.2 i).map (lab a.2.2.2)).reverse=[p.1])∨(p.2.1≠[]∧∃ R:List (List UInt8),((i::fA a.2.2.2 i).map (lab a.2.2.2)).reverse=R++[p.2.1,p.1]):=by
 have hok:=gM h
 have hi:=(TU.1 hp).1
 have h0:=xo hp
 rcases D2 hok.n1 hp with ⟨h1,h2⟩ | ⟨h1,k,h2,h3⟩
 ·left
  refine⟨h1, ?_⟩
  rw[Ji h2]
  simp[h0]
 ·right
  refine⟨h1,((fA a.2.2.2 k).map (lab a.2.2.2)).reverse, ?_⟩
  obtain⟨y,hy,e⟩:=ff h3
  have h4:=xo hy
  rw[u7 hok.nl hi h2]
  simp[h0,h4,e]
def dD (t to:List UInt8) (q:aa):aa:=if (q.2.1==t)=true then (q.1,to,q.2.2) else q
theorem Rw (t to:List UInt8) (q:aa):(dD t to q).1=q.1:=by unfold dD;split<;>rfl
theorem Gr (t to:List UInt8) (q:aa):(dD t to q).2.2.2=q.2.2.2:=by unfold dD;split<;>rfl
theorem Qh (t to:List UInt8) (ii:Int) (n1 n2:List UInt8) (n3:Int) (c1 c2:List UInt8) (c3:Int) (c4:List aa) (p1:List UInt8) (p3 p4:Int) (p5:List ah) (len:Nat) (hl:len≤1000000):
 ∀ (r P:List aa) (f:Nat),P.length+r.length=len→r.length<f→
  iter (X:=gI) (β:=gH) f (t,ii,(len:Int),(P.length:Int),n1,n2,n3,c1,c2,c3,c4,p1,to,p3,p4,p5,P++r,()) fe=some (Sum.inr (ii,n1,n2,n3,c1,c2,c3,c4,P++r.map (dD t to),())):=by
 intro r
 induction r with
 | nil=>
  intro P f hP hf
  obtain⟨f,rfl⟩:∃ m,f=m+1:=⟨f - 1,by omega⟩
  rw[Ub] at hP
  rw[fZ]
  unfold fe
  dsimp only
  rw[aX (by omega)]
  rfl
 | cons q r ih=>
  intro P f hP hf
  obtain⟨f,rfl⟩:∃ m,f=m+1:=⟨f - 1,by simp at hf;omega⟩
  simp only[T8] at hf hP
  have hg:(P++q::r)[P.length]? =some q:=by rw[TO (U0 _),Nat.sub_self];rfl
  rw[fZ]
  generalize hag:(fun y=>iter f y fe)=again
  unfold fe
  dsimp only
  have hck:(decide (0≤(P.length:Int))&&decide ((P.length:Int)<((P++q::r).length:Int)))=true:=by
   rw[SX];exact⟨VA (by omega),VA (by rw[T7,T8];omega)⟩
  rw[aO (by omega),bz hck,To,hg,Vl,aR (n:=(P.length:Int)+1) (by omega) (by omega)]
  have hrec:=ih (P++[dD t to q]) f (by rw[T7,List.length_singleton];omega) (by omega)
  rw[Tu,Tu,T7,List.length_singleton] at hrec
  cases hb:(q.2.1==t) with
  | true=>
   have e:dD t to q=(q.1,to,q.2.2):=by unfold dD;rw[VH hb]
   have es:(P++q::r).set P.length (q.1,to,q.2.2)=P++([dD t to q]++r):=by
    rw[List.set_append_right _ _ (U0 _),Nat.sub_self,e];rfl
   rw[Vx,bz hck,Vl,es, ← hag]
   exact hrec
  | false=>
   have e:dD t to q=q:=by unfold dD;rw[VG (by rw[hb];simp)]
   rw[Vw, ← hag]
   rw[e] at hrec
   rw[Uf,e]
   exact hrec
theorem Oi (j:Tw) (t to:List UInt8) (l:List aa):KK j (l.map (dD t to))=KK j l:=by
 unfold KK
 rw[Ug]
 congr 1
 apply Ue
 intro q _
 show sk j (dD t to q).2.2.2=_
 rw[Gr]
theorem Hu {a:ak} (hf:oM a) (h:cm a=0) {i:Nat} {p:aa} (hp:a.2.2.2[i]? =some p) (t:List UInt8) {L:List aa} (hL:L.length=a.2.2.2.length) (hLf:∀ q∈L,q.1.length≤9223372036854775807)
 (hk:cm (a.1,a.2.1,a.2.2.1,(L.map (dD t p.2.1)).take i++(L.map (dD t p.2.1)).drop (i+1))=0→∀ j,KK j ((L.map (dD t p.2.1)).take i++(L.map (dD t p.2.1)).drop (i+1))=KK j a.2.2.2):
 (∃ e,e≠0∧(bu (β:=(ak×Int×Unit)) (γ:=(Int×(List UInt8)×(List UInt8)×Int×(List UInt8)×(List UInt8)×Int×(List aa)×(List aa)×Unit)) (
   iter (X:=gI) (β:=gH) (List.length t+(Int.natAbs (i:Int)+(Int.natAbs ((List.length L:Int))+(Int.natAbs (0:Int)+(a.1.length+(a.2.1.length+(a.2.2.1.natAbs+(List.length ([]:List UInt8)+(List.length ([]:List UInt8)+(Int.natAbs (0:Int)+(List.length ([]:List aa)+(p.1.length+(p.2.1.length+(p.2.2.1.1.natAbs+(p.2.2.1.2.natAbs+(p.2.2.2.length+(List.length L+2))))))))))))))))) (t,(i:Int),(List.length L:Int),0,a.1,a.2.1,a.2.2.1,[],[],0,[],p.1,p.2.1,p.2.2.1.1,p.2.2.1.2,p.2.2.2,L,()) (fe)) fun v15=>
   Option.bind (eH v15.2.2.2.2.2.2.2.2.1 v15.1 (w64 (v15.1+1))) fun r16=>
   Option.bind (b6 (v15.2.1,v15.2.2.1,v15.2.2.2.1,r16.1)) fun r17=>
   bif r17.1 != 0 then
    some (([],[],0,[]),r17.1,())
   else
    some ((v15.2.1,v15.2.2.1,v15.2.2.2.1,r16.1),0,()))=some (([],[],0,[]),e,()))∨
 ∃ x:ak,cm x=0∧oM x∧x.2.2.2.length+1=a.2.2.2.length∧(∀ j,KK j x.2.2.2=KK j a.2.2.2)∧(bu (β:=(ak×Int×Unit)) (γ:=(Int×(List UInt8)×(List UInt8)×Int×(List UInt8)×(List UInt8)×Int×(List aa)×(List aa)×Unit)) (
  iter (X:=gI) (β:=gH) (List.length t+(Int.natAbs (i:Int)+(Int.natAbs ((List.length L:Int))+(Int.natAbs (0:Int)+(a.1.length+(a.2.1.length+(a.2.2.1.natAbs+(List.length ([]:List UInt8)+(List.length ([]:List UInt8)+(Int.natAbs (0:Int)+(List.length ([]:List aa)+(p.1.length+(p.2.1.length+(p.2.2.1.1.natAbs+(p.2.2.1.2.natAbs+(p.2.2.2.length+(List.length L+2))))))))))))))))) (t,(i:Int),(List.length L:Int),0,a.1,a.2.1,a.2.2.1,[],[],0,[],p.1,p.2.1,p.2.2.1.1,p.2.2.1.2,p.2.2.2,L,()) (fe)) fun v15=>
  Option.bind (eH v15.2.2.2.2.2.2.2.2.1 v15.1 (w64 (v15.1+1))) fun r16=>
  Option.bind (b6 (v15.2.1,v15.2.2.1,v15.2.2.2.1,r16.1)) fun r17=>
  bif r17.1 != 0 then
   some (([],[],0,[]),r17.1,())
  else
   some ((v15.2.1,v15.2.2.1,v15.2.2.2.1,r16.1),0,()))=some (x,0,()):=by
 have hok:=gM h
 have hl:=hok.len
 have hi:=(TU.1 hp).1
 have h13:=Qh t p.2.1 (i:Int) a.1 a.2.1 a.2.2.1 [] [] 0 [] p.1 p.2.2.1.1 p.2.2.1.2 p.2.2.2 L.length (by omega) L [] (List.length t+(Int.natAbs (i:Int)+(Int.natAbs ((List.length L:Int))+(Int.natAbs (0:Int)+(a.1.length+(a.2.1.length+(a.2.2.1.natAbs+(List.length ([]:List UInt8)+(List.length ([]:List UInt8)+(Int.natAbs (0:Int)+(List.length ([]:List aa)+(p.1.length+(p.2.1.length+(p.2.2.1.1.natAbs+(p.2.2.1.2.natAbs+(p.2.2.2.length+(List.length L+2))))))))))))))))) (by simp) (by omega)
 rw[Ux,Ux,show ((([]:List aa).length:Nat):Int)=0 from rfl] at h13
 rw[h13,aZ]
 dsimp only
 have hdel:eH (L.map (dD t p.2.1)) (i:Int) (w64 ((i:Int)+1))=some ((L.map (dD t p.2.1)).take i++(L.map (dD t p.2.1)).drop (i+1),()):=by
  show DR _ _ _=_
  unfold DR
  rw[aR (n:=(i:Int)+1) (by omega) (by omega),show (i:Int)+1=((i+1:Nat):Int) by omega,show (decide (0≤(i:Int))&&(decide ((i:Int)≤((i+1:Nat):Int))&&(decide (((i+1:Nat):Int)≤((L.map (dD t p.2.1)).length:Int))&&decide (0<(L.map (dD t p.2.1)).length))))=true by
   simp only[SX,VB,Ua]
   omega]
  rw[Vx,To,To]
 have hfx:oM (a.1,a.2.1,a.2.2.1,(L.map (dD t p.2.1)).take i++(L.map (dD t p.2.1)).drop (i+1)):=by
  intro q hq
  have hq':q∈L.map (dD t p.2.1):=by
   rcases Uh.1 hq with hq | hq
   ·exact Us hq
   ·exact Ur hq
  obtain⟨q0,hq0,rfl⟩:=Up.1 hq'
  rw[Rw];exact hLf q0 hq0
 rw[hdel,Vl]
 dsimp only
 rw[eo _ hfx,Vl]
 dsimp only
 by_cases h2:cm (a.1,a.2.1,a.2.2.1,(L.map (dD t p.2.1)).take i++(L.map (dD t p.2.1)).drop (i+1))=0
 ·rw[h2,show ((0:Int) != 0)=false from rfl,Vw]
  refine .inr ⟨_,h2,hfx, ?_,hk h2,rfl⟩
  dsimp only
  rw[T7,Ud,T9,Ua]
  omega
 ·rw[show (cm (a.1,a.2.1,a.2.2.1,(L.map (dD t p.2.1)).take i++(L.map (dD t p.2.1)).drop (i+1)) != 0)=true by simpa using h2,Vx]
  exact .inl ⟨_,h2,rfl⟩
theorem LQ (a:ak) (hf:oM a) (h:cm a=0) (t:List UInt8):
 (∃ e,e≠0∧fK a t=some (([],[],0,[]),e,()))∨
 ∃ x:ak,cm x=0∧oM x∧x.2.2.2.length+1=a.2.2.2.length∧(∀ j,KK j x.2.2.2=KK j a.2.2.2)∧fK a t=some (x,0,()):=by
 have hok:=gM h
 have hl:=hok.len
 unfold fK
 rw[jD a hf,Vl,VG (by simpa using h)]
 dsimp only
 cases hT:dn (fun x:aa=>x.1) t a.2.2.2 with
 | none=>exact .inl ⟨9,by decide,rfl⟩
 | some i=>
 rw[show (Option.isSome (some i))=true from rfl,VH rfl,show ((0:Int) != 0)=false from rfl,Vw]
 obtain⟨i',k1,k2⟩:=b7 a t (by omega) hok.asc
 rw[k1,Vl,k2 i hT]
 dsimp only
 obtain⟨p,hp,hpt⟩:=ff hT
 have hi:=(TU.1 hp).1
 rw[bL,hp,Vl]
 have hcl:=sO hl (sB h)
 obtain⟨k',m1,m2⟩:=b7 a p.2.1 (by omega) hok.asc
 by_cases h0:p.2.1=[]
 ·rw[show (p.2.1==[])=true by simpa using h0,Vx,Vl]
  dsimp only
  by_cases hc:p.2.2.2.length=0
  rotate_left
  ·rw[aO (by omega)]
   exact .inl ⟨12,by decide,rfl⟩
  ·rw[aX (by omega),hcl,Vl]
   dsimp only
   rw[show b9 (a.1,a.2.1,a.2.2.1,a.2.2.2) p.2.1=_ from m1,Vl,Td,Vw,Vl]
   dsimp only
   rw[Vw,aZ]
   refine Hu hf h hp t rfl (fun q hq=>hf q hq) fun _ j=> ?_
   have hg:(a.2.2.2.map (dD t p.2.1))[i]? =some (dD t p.2.1 p):=by rw[TV,hp];rfl
   unfold KK
   rw[F8 _ hg]
   show KK j (a.2.2.2.map (dD t p.2.1)) - sk j (dD t p.2.1 p).2.2.2=KK j a.2.2.2
   rw[Oi,Gr,TI hc,show sk j []=0 from rfl]
   omega
 ·rw[show (p.2.1==[])=false by simpa using h0,Vw,Vl]
  dsimp only
  rw[Vw,hcl,Vl]
  dsimp only
  obtain⟨_,k,hk1,hk2⟩ | hx:=Or.symm (D2 hok.n1 hp)
  rotate_left
  ·exact absurd hx.1 h0
  obtain⟨y,hy,hyl⟩:=ff hk2
  have hkl:=(TU.1 hy).1
  have hki:k≠i:=by
   have hnd:=AM hok.nl hi
   rw[u7 hok.nl hi hk1,Uy,Uk,VL] at hnd
   exact fun e=>hnd.1.1 e.symm
  rw[show b9 (a.1,a.2.1,a.2.2.1,a.2.2.2) p.2.1=_ from m1,Vl,Tc,Vx,Vl]
  dsimp only
  rw[m2 k hk2,hk2,show (Option.isSome (some k))=true from rfl,Vx]
  obtain⟨M',g1,g2⟩:=put_eq (M:=y.2.2.2) (cs:=p.2.2.2) (by have:=(sB h y (Uq hy)).n;omega) (fun c hc=>(N6 h y (Uq hy) c hc).1) (by have:=(sB h p (Uq hp)).n;omega) (fun c hc=>(N6 h p (Uq hp) c hc).1)
  have hck:(decide (0≤(k:Int))&&decide ((k:Int)<(a.2.2.2.length:Int)))=true:=by
   rw[SX];exact⟨VA (by omega),VA (by omega)⟩
  rw[bz hck,To,hy,Vl,g1,Vl,bz hck,Vl,aZ]
  dsimp only
  refine Hu hf h hp t (L:=a.2.2.2.set k (y.1,y.2.1,y.2.2.1,M')) (by rw[Uc]) ?_ fun h2 j=> ?_
  ·intro q hq
   rcases Ut hq with hq | hq
   ·exact hf q hq
   ·rw[hq];exact hf y (Uq hy)
  ·have hLi:(a.2.2.2.set k (y.1,y.2.1,y.2.2.1,M'))[i]? =some p:=by rw[TY hki];exact hp
   have hLk:(a.2.2.2.set k (y.1,y.2.1,y.2.2.1,M'))[k]? =some (y.1,y.2.1,y.2.2.1,M'):=TZ hkl
   generalize hLe:a.2.2.2.set k (y.1,y.2.1,y.2.2.1,M')=L at*
   have hg:(L.map (dD t p.2.1))[i]? =some (dD t p.2.1 p):=by rw[TV,hLi];rfl
   have hgk:(L.map (dD t p.2.1))[k]? =some (dD t p.2.1 (y.1,y.2.1,y.2.2.1,M')):=by rw[TV,hLk];rfl
   have hmem:dD t p.2.1 (y.1,y.2.1,y.2.2.1,M')∈(L.map (dD t p.2.1)).take i++(L.map (dD t p.2.1)).drop (i+1):=by
    rcases Nat.lt_or_gt_of_ne hki with c | c
    ·refine Ui _ (Uq (i:=k) ?_)
     rw[T3 c];exact hgk
    ·refine Uj _ (Uq (i:=k - (i+1)) ?_)
     rw[TR,show i+1+(k - (i+1))=k by omega];exact hgk
   have hE:Ci M':=by
    intro c hc
    have:=N6 h2 _ hmem c (by rw[Gr];exact hc)
    exact this.2
   have hs:=g2 hE j
   unfold KK
   rw[F8 _ hg]
   show KK j (L.map (dD t p.2.1)) - sk j (dD t p.2.1 p).2.2.2=KK j a.2.2.2
   rw[Oi,Gr, ← hLe]
   unfold KK
   rw[Bz _ hy]
   dsimp only
   rw[hs]
   omega
end Go.Md
set_option linter.all false
set_option maxRecDepth 20000
namespace Go.Md
open Go.Dn
theorem Qs {a:ak} {t:List UInt8} (h:(je a t).2≠0):(je a t).1=[]:=by
 unfold je at*
 split at h
 ·rename_i h1;rw[VH h1]
 ·rename_i h1
  rw[VG h1]
  split at h
  ·rename_i h2
   rw[VH h2]
   unfold zB at*
   split at h
   ·exact absurd rfl h
   ·rfl
  ·rename_i h2;rw[VG h2]
theorem Rm {a:ak} {t:List UInt8} (h:(je a t).2=0):cm a=0:=by
 unfold je at h
 split at h
 ·exact h
 ·rename_i h1;simpa using h1
theorem xZ:lz=some (true,()):=by kernel_rfl
theorem Qc (a:ak) (t to:List UInt8) (hf:oM a) (h:(je a []).2=0):
 (Option.bind (eG a t to) fun r4=>
 bu (β:=(Bool×Unit)) (γ:=((List UInt8)×(List bw)×(List UInt8)×(List UInt8)×Int×(List aa)×Unit)) (
  bif r4.2.1==0 then
   Option.bind (eP r4.1 []) fun r5=>
   Option.bind (nZ a t) fun r6=>
   bif r5.2.1 != 0 then
    some (Sum.inl (false,()))
   else
    bif r6.2.1 != 0 then
     some (Sum.inl (false,()))
    else
     Option.bind (cF (je a []).1 r5.1) fun r7=>
     bif !r7.1 then
      some (Sum.inl (false,()))
     else
      bif ((r6.1.length:Int))==0 then
       some (Sum.inl (false,()))
      else
       bu (β:=((Bool×Unit) ⊕ ((List UInt8)×(List bw)×(List UInt8)×(List UInt8)×Int×(List aa)×Unit))) (γ:=((List UInt8)×(List bw)×(List UInt8)×(List UInt8)×(List UInt8)×Int×(List aa)×(List UInt8)×(List UInt8)×Int×(List aa)×Unit)) (
        bif decide (((r6.1.length:Int))>1) then
         Option.bind (idx r6.1 (w64 (((r6.1.length:Int)) - 2))) fun y8=>
         some (Sum.inr (t,(je a []).1,y8,a.1,a.2.1,a.2.2.1,a.2.2.2,r4.1.1,r4.1.2.1,r4.1.2.2.1,r4.1.2.2.2,()))
        else
         some (Sum.inr (t,(je a []).1,[],a.1,a.2.1,a.2.2.1,a.2.2.2,r4.1.1,r4.1.2.1,r4.1.2.2.1,r4.1.2.2.2,()))) fun v9=>
       Option.bind (eG (v9.2.2.2.2.2.2.2.1,v9.2.2.2.2.2.2.2.2.1,v9.2.2.2.2.2.2.2.2.2.1,v9.2.2.2.2.2.2.2.2.2.2.1) v9.1 v9.2.2.1) fun r10=>
       bif r10.2.1 != 0 then
        some (Sum.inl (false,()))
       else
        Option.bind (ur r10.1 (v9.2.2.2.1,v9.2.2.2.2.1,v9.2.2.2.2.2.1,v9.2.2.2.2.2.2.1)) fun r11=>
        bif !r11.1 then
         some (Sum.inl (false,()))
        else
         some (Sum.inr (v9.1,v9.2.1,v9.2.2.2.1,v9.2.2.2.2.1,v9.2.2.2.2.2.1,v9.2.2.2.2.2.2.1,()))
  else
   some (Sum.inr (t,(je a []).1,a.1,a.2.1,a.2.2.1,a.2.2.2,()))) fun v12=>
 Option.bind (fK (v12.2.2.1,v12.2.2.2.1,v12.2.2.2.2.1,v12.2.2.2.2.2.1) v12.1) fun r13=>
 bif r13.2.1==0 then
  Option.bind (eP r13.1 []) fun r14=>
  bif r14.2.1 != 0 then
   some (false,())
  else
   Option.bind (cF v12.2.1 r14.1) fun r15=>
   bif !r15.1 then
    some (false,())
   else
    bif ((r13.1.2.2.2.length:Int)) != (w64 (((v12.2.2.2.2.2.1.length:Int)) - 1)) then
     some (false,())
    else
     Option.bind (lz) fun r16=>
     some (r16.1,())
 else
  Option.bind (lz) fun r17=>
  some (r17.1,()))=some (true,()):=by
 have ha:=Rm h
 have hok:=gM ha
 have hl:=hok.len
 have hlen:=Qr a []
 have last:∀ X:Option ((Bool×Unit) ⊕ ((List UInt8)×(List bw)×(List UInt8)×(List UInt8)×Int×(List aa)×Unit)),X=some (Sum.inr (t,(je a []).1,a.1,a.2.1,a.2.2.1,a.2.2.2,()))→
  bu (β:=(Bool×Unit)) X (fun v12=>
  Option.bind (fK (v12.2.2.1,v12.2.2.2.1,v12.2.2.2.2.1,v12.2.2.2.2.2.1) v12.1) fun r13=>
  bif r13.2.1==0 then
   Option.bind (eP r13.1 []) fun r14=>
   bif r14.2.1 != 0 then
    some (false,())
   else
    Option.bind (cF v12.2.1 r14.1) fun r15=>
    bif !r15.1 then
     some (false,())
    else
     bif ((r13.1.2.2.2.length:Int)) != (w64 (((v12.2.2.2.2.2.1.length:Int)) - 1)) then
      some (false,())
     else
      Option.bind (lz) fun r16=>
      some (r16.1,())
  else
   Option.bind (lz) fun r17=>
   some (r17.1,()))=some (true,()):=by
  intro X hX
  rw[hX,aZ]
  dsimp only
  rw[show fK (a.1,a.2.1,a.2.2.1,a.2.2.2) t=fK a t from rfl]
  rcases LQ a hf ha t with ⟨e,he,g⟩ | ⟨x,g1,g2,g3,g4,g5⟩
  ·rw[g,Vl]
   dsimp only
   rw[show (e==0)=false by simpa using he,Vw,xZ]
   rfl
  ·rw[g5,Vl]
   dsimp only
   rw[show ((0:Int)==0)=true from rfl,Vx,rP x g2 [],L9 ha g1 g4,Vl]
   dsimp only
   rw[h,show ((0:Int) != 0)=false from rfl,Vw,EV _ (by omega),Vl]
   dsimp only
   rw[Td,Vw,aR (n:=(a.2.2.2.length:Int) - 1) (by omega) (by omega),show (((x.2.2.2.length:Nat):Int) != ((a.2.2.2.length:Int) - 1))=false by rw[bne_eq_false_iff_eq];omega,Vw,xZ]
   rfl
 rcases ME a hf ha t to with ⟨e,he,g⟩ | ⟨i,p,g1,g2,g3,g4,g5⟩
 ·rw[g,Vl]
  dsimp only
  rw[show (e==0)=false by simpa using he,Vw]
  exact last _ rfl
 rw[g5,Vl]
 dsimp only
 rw[show ((0:Int)==0)=true from rfl,Vx]
 have hfx:=hf.set g2 (to,p.2.2)
 have hkx:∀ j,KK j (a.2.2.2.set i (p.1,to,p.2.2))=KK j a.2.2.2:=PA g2 to
 have htot:eP (a.1,a.2.1,a.2.2.1,a.2.2.2.set i (p.1,to,p.2.2)) []=some ((je a []).1,(je a []).2,()):=by
  rw[rP _ hfx [],L9 ha g4 hkx]
 have hpath:nZ a t=some (((i::fA a.2.2.2 i).map (lab a.2.2.2)).reverse,0,()):=by
  rw[IX a hf t,VG (by simpa using ha),g1];rfl
 have hi:=(TU.1 g2).1
 have hset:(a.2.2.2.set i (p.1,to,p.2.2)).set i (p.1,p.2.1,p.2.2)=a.2.2.2:=by
  rw[UH]
  have e:a.2.2.2[i]=p:=(TU.1 g2).2
  have h9:a.2.2.2.set i (a.2.2.2[i])=a.2.2.2:=UG hi
  rw[e] at h9
  exact h9
 have hg':(a.2.2.2.set i (p.1,to,p.2.2))[i]? =some (p.1,to,p.2.2):=TZ hi
 have hT':dn (fun x:aa=>x.1) t (a.2.2.2.set i (p.1,to,p.2.2))=some i:=by
  rw[uc,FM g2, ← uc];exact g1
 have hback:eG (a.1,a.2.1,a.2.2.1,a.2.2.2.set i (p.1,to,p.2.2)) t p.2.1=some (a,0,()):=by
  have hm:=Qb (a:=(a.1,a.2.1,a.2.2.1,a.2.2.2.set i (p.1,to,p.2.2))) hfx g4 (t:=t) (to:=p.2.1) hT' hg' (QV ha g2 (to,p.2.2)) (by dsimp only;rw[hset];exact ha)
  dsimp only at hm
  rw[hset] at hm
  exact hm
 have hsame:ur a (a.1,a.2.1,a.2.2.1,a.2.2.2)=some (true,()):=Re a (by omega) fun q hq=>by
  have:=(sB ha q hq).n
  omega
 rw[htot,hpath,Vl,Vl]
 dsimp only
 rw[h,show ((0:Int) != 0)=false from rfl,Vw,Vw,EV _ (by omega),Vl]
 dsimp only
 rw[Td,Vw]
 refine last _ ?_
 rcases QU ha g2 with ⟨h1,h2⟩ | ⟨h1,R,h2⟩
 ·rw[h2,show (((([p.1]:List (List UInt8)).length:Nat):Int)==0)=false from rfl,Vw,show decide (((([p.1]:List (List UInt8)).length:Nat):Int)>1)=false from rfl,Vw,aZ]
  dsimp only
  rw[← h1,hback,Vl]
  dsimp only
  rw[show ((0:Int) != 0)=false from rfl,Vw,hsame,Vl]
  dsimp only
  rw[Td,Vw]
 ·have hRl:(R++[p.2.1,p.1]).length=R.length+2:=by rw[T7];rfl
  have hRb:R.length+2≤1000:=by
   have h5:=congrArg List.length h2
   rw[List.length_reverse,Ua,T8,hRl] at h5
   have h6:=AL hok.nl hi
   omega
  have hidx:(R++[p.2.1,p.1])[R.length]? =some p.2.1:=by rw[TO (U0 _),Nat.sub_self];rfl
  rw[h2,hRl,show (((R.length+2:Nat):Int)==0)=false by rw[Vt];omega,Vw,aO (by omega),aR (n:=((R.length+2:Nat):Int) - 2) (by omega) (by omega),show ((R.length+2:Nat):Int) - 2=((R.length:Nat):Int) by omega,bL,hidx,Vl,aZ]
  dsimp only
  rw[hback,Vl]
  dsimp only
  rw[show ((0:Int) != 0)=false from rfl,Vw,hsame,Vl]
  dsimp only
  rw[Td,Vw]
theorem law_ParcelMovesLoseNothing (a:ak) (t to:List UInt8) (hf:oM a):fJ a t to=some (true,()):=by
 unfold fJ
 rw[rP a hf [],Vl]
 dsimp only
 by_cases h:(je a []).2=0
 ·rw[show ((je a []).2 != 0)=false by simpa using h,Vw]
  exact Qc a t to hf h
 ·rw[show ((je a []).2 != 0)=true by simpa using h,Vx,Qs h,show (((([]:List bw).length:Nat):Int)==0)=true from rfl,Vx,xZ]
  rfl
end Go.Md
