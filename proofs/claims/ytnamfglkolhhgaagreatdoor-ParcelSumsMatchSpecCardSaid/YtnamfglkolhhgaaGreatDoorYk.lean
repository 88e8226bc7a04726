/-
  Plain facts: what is in parcels; sums of both sides; the plain law is true of all data. No condition.
-/
import Derived.Test.YtnamfglkolhhgaaGreatDoorYo
import Derived.Test.YtnamfglkolhhgaaGreatDoorYu
set_option linter.all false
set_option linter.all false
set_option maxRecDepth 20000
namespace Go.Md
open Go.Dn
abbrev Tw:Type:=List UInt8×List UInt8
theorem DO (a b:Tw):Ty.beq aG a b=decide (a=b):=by
 show (Kv a.1 b.1&&Kv a.2 b.2)=_
 by_cases h1:a.1=b.1
 ·by_cases h2:a.2=b.2
  ·rw[acw (Prod.ext h1 h2)]
   simp[Kv,h1,h2]
  ·rw[acu (fun e=>h2 (by rw[e]))]
   simp[Kv,h2]
 ·rw[acu (fun e=>h1 (by rw[e]))]
  simp[Kv,h1]
def toW (p:Tw×Int):Tw×an:=(p.1,W p.2)
def dI (k:Tw):List (Tw×Int)→Option Int
 | []=>none
 | p::r=>if k=p.1 then some p.2 else dI k r
def dK (k:Tw) (z:Int):List (Tw×Int)→List (Tw×Int)
 | []=>[(k,z)]
 | p::r=>if k=p.1 then (k,p.2+z)::r else p::dK k z r
theorem We (k:Tw):∀ S:List (Tw×Int),bZ (k:=aG) (v:=aI) (S.map toW) k=(dI k S).map W
 | []=>rfl
 | p::r=>by
  refine (@Wg aG aI (toW p) (r.map toW) k).trans ?_
  have ih:=We k r
  simp only[dI]
  by_cases h:k=p.1
  ·rw[acF h,show Ty.beq aG k (toW p).1=true from (DO _ _).trans (acw h)];rfl
  ·rw[acE h,show Ty.beq aG k (toW p).1=false from (DO _ _).trans (acu h),acq];exact ih
theorem Oy (k:Tw) (z:Int):∀ (S:List (Tw×Int)) (b:Int),dI k S=some b→gJ (k:=aG) (v:=aI) (S.map toW) k (W (b+z))=(dK k z S).map toW
 | p::r,b,h=>by
  refine (@Ow aG aI (toW p) (r.map toW) k _).trans ?_
  simp only[dI] at h
  simp only[dK]
  by_cases e:k=p.1
  ·rw[acF e] at h
   cases h
   rw[acF e,show Ty.beq aG k (toW p).1=true from (DO _ _).trans (acw e)];rfl
  ·rw[acE e] at h
   rw[acE e,show Ty.beq aG k (toW p).1=false from (DO _ _).trans (acu e),acq,Oy k z r b h]
   rfl
theorem Ox (k:Tw) (z:Int):∀ (S:List (Tw×Int)),dI k S=none→gJ (k:=aG) (v:=aI) (S.map toW) k (W z)=(dK k z S).map toW
 | [],_=>rfl
 | p::r,h=>by
  refine (@Ow aG aI (toW p) (r.map toW) k _).trans ?_
  simp only[dI] at h
  simp only[dK]
  by_cases e:k=p.1
  ·rw[acF e] at h;cases h
  ·rw[acE e] at h
   rw[acE e,show Ty.beq aG k (toW p).1=false from (DO _ _).trans (acu e),acq,Ox k z r h]
   rfl
theorem RB (k:Tw) (S:List (Tw×Int)) (M:List (Tw×an)) (hM:M=S.map toW):bZ (k:=aG) (v:=aI) M k=(dI k S).map W:=by
 subst hM;exact We k S
theorem UU (k:Tw) (z:Int) (S:List (Tw×Int)) (M:List (Tw×an)) (hM:M=S.map toW) (b:Int) (h:dI k S=some b):gJ (k:=aG) (v:=aI) M k (W (b+z))=(dK k z S).map toW:=by
 subst hM;exact Oy k z S b h
theorem UT (k:Tw) (z:Int) (S:List (Tw×Int)) (M:List (Tw×an)) (hM:M=S.map toW) (h:dI k S=none):gJ (k:=aG) (v:=aI) M k (W z)=(dK k z S).map toW:=by
 subst hM;exact Ox k z S h
def M24:Nat:=10 ^ 24
def Sm (n:Nat) (S:List (Tw×Int)):Prop:=∀ p∈S,p.2.natAbs≤n*M24
theorem Sm.add {n:Nat} {S:List (Tw×Int)} (h:Sm n S) {k:Tw} {z:Int} (hz:z.natAbs≤10 ^ 24):Sm (n+1) (dK k z S):=by
 have hz:z.natAbs≤M24:=hz
 have e:(n+1)*M24=n*M24+M24:=by rw[abH,ab5]
 induction S with
 | nil=>
  intro p hp
  rcases abk.1 hp with rfl
  show z.natAbs≤_
  rw[e];omega
 | cons q r ih=>
  have h1:=h q abb
  intro p hp
  simp only[dK] at hp
  split at hp
  ·rcases aa9.1 hp with rfl | hp
   ·show (q.2+z).natAbs≤_
    rw[e];omega
   ·have:=h p (aba _ hp)
    rw[e];omega
  ·rcases aa9.1 hp with rfl | hp
   ·rw[e];omega
   ·exact ih (fun x hx=>h x (aba _ hx)) p hp
theorem ye {k:Tw}:∀ {S:List (Tw×Int)} {b:Int},dI k S=some b→(k,b)∈S
 | p::r,b,h=>by
  simp only[dI] at h
  split at h
  ·rename_i e
   cases h
   rw[e];exact abb
  ·exact aba _ (ye h)
theorem Sm.le {n:Nat} {S:List (Tw×Int)} (h:Sm n S) (hn:n≤1000000) {p:Tw×Int} (hp:p∈S):p.2.natAbs≤10 ^ 30:=by
 have h1:=h p hp
 have h2:=ab3 M24 hn
 exact abQ h1 (abQ h2 (by unfold M24;decide))
theorem Io {d:ak} (h:cD d):(v9 d).natAbs≤10 ^ 24:=XI h
theorem Uh {d:ak} (h:cD d):ew d 9=some (W (v9 d),()):=by
 have h1:=h.1;have h2:=h.2
 exact JE d 9 (by omega) (by omega) (by omega) (by omega) (by omega)
theorem Qd {n:Nat} (h:n≤10 ^ 40):n<4294967296 ^ 99:=by
 refine abT h ?_
 exact abU (show 10 ^ 40<4294967296 ^ 5 by decide) (ab7 (by decide) (by decide))
theorem Jz {n:Nat} {S:List (Tw×Int)} (hS:Sm n S) (hn:n≤1000000) (k:Tw) {d:ak} (hd:cD d):iL (S.map toW) k d=some ((dK k (v9 d) S).map toW,()):=by
 have hv:=Io hd
 obtain⟨M,hM⟩:∃ M:List (Tw×an),M=S.map toW:=⟨_,rfl⟩
 rw[← hM]
 have hg:=RB k S M hM
 have hs:=fun b h=>UU k (v9 d) S M hM b h
 have hs0:=UT k (v9 d) S M hM
 unfold iL
 rw[hg]
 cases h:dI k S with
 | none=>
  show (Option.bind (mw 0) fun r1=>Option.bind (ew d 9) fun r2=>Option.bind (eD r1.1 r2.1) fun r3=>some (gJ (k:=aG) (v:=aI) M k r3.1,()))=_
  rw[sC 0 (by omega) (by omega),ace,Uh hd,ace]
  dsimp only
  rw[zo 0 _ (Qd (by omega)) (Qd (by omega)),ace]
  dsimp only
  rw[Int.zero_add,hs0 h]
  rfl
 | some b=>
  have hb:=hS.le hn (ye h)
  show (Option.bind (ew d 9) fun r4=>Option.bind (eD (W b) r4.1) fun r5=>some (gJ (k:=aG) (v:=aI) M k r5.1,()))=_
  rw[Uh hd,ace]
  dsimp only
  rw[zo b _ (Qd (by omega)) (Qd (by omega)),ace]
  dsimp only
  rw[hs b h]
  rfl
theorem FZ (k:Tw) (z:Int):∀ S:List (Tw×Int),(∀ p,p∈dK k z S→p.1=k∨∃ q∈S,q.1=p.1)
 | [],p,hp=>by rcases abk.1 hp with rfl;exact .inl rfl
 | q::r,p,hp=>by
  simp only[dK] at hp
  split at hp
  ·rcases aa9.1 hp with rfl | hp
   ·exact .inl rfl
   ·exact .inr ⟨p,aba _ hp,rfl⟩
  ·rcases aa9.1 hp with rfl | hp
   ·exact .inr ⟨p,abb,rfl⟩
   ·rcases FZ k z r p hp with h | ⟨x,hx,h⟩
    ·exact .inl h
    ·exact .inr ⟨x,aba _ hx,h⟩
theorem TJ (k:Tw) (z:Int):∀ S:List (Tw×Int),(S.map (·.1)).Nodup→((dK k z S).map (·.1)).Nodup
 | [],_=>by simp[dK]
 | q::r,h=>by
  rw[aa5,abn] at h
  simp only[dK]
  split
  ·rename_i e
   rw[aa5,abn,e];exact h
  ·rename_i e
   rw[aa5,abn]
   refine⟨fun hm=> ?_,TJ k z r h.2⟩
   obtain⟨p,hp,e1⟩:=abe.1 hm
   rcases FZ k z r p hp with h1 | ⟨x,hx,h1⟩
   ·exact e (by rw[← h1,e1])
   ·exact h.1 (abe.2 ⟨x,hx,h1.trans e1⟩)
theorem Qi (k:Tw) (z:Int):∀ S:List (Tw×Int),(dK k z S).length≤S.length+1
 | []=>by simp[dK]
 | q::r=>by
  have ih:=Qi k z r
  simp only[dK]
  split
  ·simp
  ·simp only[aaX];omega
structure fS (n:Nat) (S:List (Tw×Int)):Prop where
 sm:Sm n S
 nd:(S.map (·.1)).Nodup
 st:∀ p∈S,p.1.1.length≤1000∧p.1.2.length≤1000
 len:S.length≤n
theorem fS.nil:fS 0 []:=⟨fun _ h=>(by cases h),List.nodup_nil,fun _ h=>(by cases h),abP _⟩
theorem fS.add {n:Nat} {S:List (Tw×Int)} (h:fS n S) {k:Tw} {z:Int} (hz:z.natAbs≤10 ^ 24) (hk:k.1.length≤1000∧k.2.length≤1000):fS (n+1) (dK k z S):=
 ⟨h.sm.add hz,TJ k z S h.nd,fun p hp=>by
   rcases FZ k z S p hp with e | ⟨q,hq,e⟩
   ·rw[e];exact hk
   ·rw[← e];exact h.st q hq,abQ (Qi k z S) (Nat.succ_le_succ h.len)⟩
theorem Nq {s:List UInt8} (h:eZ s=true):s.length≤1000:=by
 apply Decidable.byContradiction
 intro hc
 unfold eZ at h
 have e:dQ s=some (false,()):=by
  unfold dQ
  rw[aH (by omega),aC (by omega)]
 rw[e] at h
 cases h
structure Mn (c:ai):Prop where
 d:cD c.2.2.2
 n1:c.1.length≤1000
 n2:c.2.1.length≤1000
def Um (l:List ah):Prop:=∀ p∈l,p.2.2.2.length≤100∧∀ c∈p.2.2.2,Mn c
theorem Qy {l:List ai} (h:iV l=0):∀ c∈l,Mn c:=by
 have hq:=(Jb h).2
 unfold iV at h
 split at h
 ·omega
 intro c hc
 have hd:=(hq c hc).dec
 obtain⟨i,hi⟩:=abd.1 hc
 have:=gT h i c hi
 unfold BT at this
 split at this
 ·omega
 rename_i h1
 split at this
 ·omega
 rename_i h2
 exact⟨hd,Nq (by simpa using h1),Nq (by simpa using h2)⟩
theorem DC {a:aS} (h:eH a=0):Um a.2.2.2:=by
 intro p hp
 refine⟨(X8 h p hp).n, ?_⟩
 unfold eH at h
 split at h
 ·omega
 split at h
 ·omega
 split at h
 ·omega
 split at h
 ·omega
 split at h
 ·omega
 have h3:cr (jY a.2.2.2) 0 a.2.2.2=0:=by omega
 obtain⟨i,hi⟩:=abd.1 hp
 have:=gT h3 i p hi
 unfold jY at this
 split at this
 ·omega
 split at this
 ·omega
 split at this
 ·omega
 exact Qy this
def ck (c:ai):Tw:=(c.1,c.2.1)
def w6 (S:List (Tw×Int)) (cs:List ai):List (Tw×Int):=cs.foldl (fun S c=>dK (ck c) (v9 c.2.2.2) S) S
theorem WG (S:List (Tw×Int)) (cs:List ai) (c:ai):w6 S (cs++[c])=dK (ck c) (v9 c.2.2.2) (w6 S cs):=by
 unfold w6;rw[List.foldl_append];rfl
theorem fS.Xy {n:Nat} {S:List (Tw×Int)} (h:fS n S):∀ cs:List ai,(∀ c∈cs,Mn c)→fS (n+cs.length) (w6 S cs):=by
 intro cs
 induction cs generalizing n S with
 | nil=>intro _;exact h
 | cons c r ih=>
  intro hc
  have h1:=hc c abb
  have:=ih (h.add (k:=ck c) (Io h1.d) ⟨h1.n1,h1.n2⟩) (fun x hx=>hc x (aba _ hx))
  rw[aaX,show n+(r.length+1)=n+1+r.length by omega]
  exact this
end Go.Md
set_option linter.all false
set_option maxRecDepth 20000
namespace Go.Md
open Go.Dn
theorem yA {a b:Tw}:cz a b<0↔Op.bytesLess a.1 b.1=true∨(a.1=b.1∧Op.bytesLess a.2 b.2=true):=by
 unfold cz
 by_cases h:Lib.compareBytes a.1 b.1=0
 ·rw[show (Lib.compareBytes a.1 b.1==0)=true by simpa using h,acr,wo]
  have e:=x4.1 h
  constructor
  ·intro h2;exact .inr ⟨e,h2⟩
  ·rintro (h2 | ⟨_,h2⟩)
   ·rw[e,eW] at h2;cases h2
   ·exact h2
 ·rw[show (Lib.compareBytes a.1 b.1==0)=false by simpa using h,acq,wo]
  constructor
  ·exact .inl
  ·rintro (h2 | ⟨e,_⟩)
   ·exact h2
   ·exact absurd (x4.2 e) h
theorem uD (a b:Tw):cz a b<0∨a=b∨cz b a<0:=by
 rw[yA,yA]
 rcases Gi a.1 b.1 with h | h | h
 ·exact .inl (.inl h)
 ·rcases Gi a.2 b.2 with g | g | g
  ·exact .inl (.inr ⟨h,g⟩)
  ·exact .inr (.inl (Prod.ext h g))
  ·exact .inr (.inr (.inr ⟨h.symm,g⟩))
 ·exact .inr (.inr (.inl h))
theorem Rq {n:Nat} {S:List (Tw×Int)} (h:fS n S) (hn:n≤1000000):uy cz (S.map toW)=true:=by
 have e:(S.map toW).map (·.1)=S.map (·.1):=by rw[aa6];rfl
 have h1:=h.len
 unfold uy
 rw[e]
 simp only[ZN,acy,aaZ,aah,ZZ]
 refine⟨by omega,fun p hp=> ?_,h.nd,fun x _ y _=> ?_⟩
 ·obtain⟨q,hq,rfl⟩:=abe.1 hp
  have:=h.st q hq
  show q.1.1.length≤_∧q.1.2.length≤_
  omega
 ·rcases uD x y with h | h | h
  ·exact .inl h
  ·exact .inr (.inr h)
  ·exact .inr (.inl h)
def ksS (S:List (Tw×Int)):List Tw:=(S.map (·.1)).mergeSort fun x y=> !decide (cz y x<0)
theorem V3 (S:List (Tw×Int)):gP cz (S.map toW)=ksS S:=by
 have e:(S.map toW).map (·.1)=S.map (·.1):=by rw[aa6];rfl
 unfold gP ksS
 rw[e]
theorem tF (S:List (Tw×Int)):(ksS S).Perm (S.map (·.1)):=abl _ _
def Bu (S:List (Tw×Int)) (k:Tw):Int:=(dI k S).getD 0
theorem Ry {S:List (Tw×Int)} (hnd:(S.map (·.1)).Nodup) {p:Tw×Int} (hp:p∈S):dI p.1 S=some p.2:=by
 induction S with
 | nil=>cases hp
 | cons q r ih=>
  rw[aa5,abn] at hnd
  simp only[dI]
  rcases aa9.1 hp with rfl | hp
  ·rw[acF rfl]
  ·rw[acE (fun e=>hnd.1 (abe.2 ⟨p,hp,e⟩))]
   exact ih hnd.2 hp
def okD (z:Int):Bool:=decide ((few 9 z).1.natAbs≤1000000000000000)
def yP (S:List (Tw×Int)):List Tw→Option (List ax)
 | []=>some []
 | k::r=>if okD (Bu S k)=true then (yP S r).map fun l=>if (few 9 (Bu S k)).1=0 then l else (k.1,k.2,tc (Bu S k))::l else none
def GP (S:List (Tw×Int)):List ax×Int:=match yP S (ksS S) with
 | some l=>(l,0)
 | none=>([],1)
theorem TX {z:Int} (h:z.natAbs≤10 ^ 30):Le 42 z:=abQ h (by decide)
theorem Yx {n:Nat} {S:List (Tw×Int)} (h:fS n S) (hn:n≤1000000) {M:List (Tw×an)} (hM:M=S.map toW) (ks:List Tw) (hks:ks.length≤1000000) (hsub:∀ k∈ks,∃ z,dI k S=some z):
 ∀ (r:List Tw) (i f:Nat) (acc:List ax),ks.drop i=r→i≤ks.length→r.length<f→acc.length≤i→
 iter (X:=jb) (β:=ja) f (acc,(ks.length:Int),(i:Int),ks,M,()) gp=
  some (match yP S r with | some l=>Sum.inr (acc++l,M,()) | none=>Sum.inl ([],1,M,())):=by
 have Ke:maxLen=9223372036854775807:=rfl
 intro r
 induction r with
 | nil=>
  intro i f acc hdr hi hf ha
  have:i=ks.length:=by
   have:=congrArg List.length hdr
   simp at this;omega
  subst this
  obtain⟨f,rfl⟩:∃ m,f=m+1:=⟨f - 1,by omega⟩
  rw[bO]
  unfold gp
  dsimp only
  rw[aH (by omega)]
  simp only[yP,aal]
 | cons k r ih=>
  intro i f acc hdr hi hf ha
  have hki:ks[i]? =some k:=by
   have:=congrArg (·[0]?) hdr
   simpa [aaI] using this
  have hr':ks.drop (i+1)=r:=by
   have:=congrArg List.tail hdr
   simpa [abz] using this
  have hlt:=(aaL.1 hki).1
  obtain⟨z,hz⟩:=hsub k (abf hki)
  have hv:Bu S k=z:=by unfold Bu;rw[hz];rfl
  have hzb:=h.sm.le hn (ye hz)
  obtain⟨f,rfl⟩:∃ m,f=m+1:=⟨f - 1,by simp at hf;omega⟩
  simp only[aaX] at hf
  have hg:Option.getD (α:=an) (bZ (k:=aG) (v:=aI) M k) (false,[])=W z:=by
   rw[RB k S M hM,hz];rfl
  rw[bO]
  generalize hag:(fun y=>iter f y gp)=again
  unfold gp
  dsimp only
  rw[aC (by omega),aY (by simp only[ZN,acy];omega),aaf,hki,ace,hg,DB (TX hzb),ace]
  simp only[yP]
  rw[hv]
  by_cases hok:(few 9 z).1.natAbs≤1000000000000000
  ·rw[acF hok,acF (show okD z=true from acw hok)]
   dsimp only
   rw[show ((0:Int) != 0)=false from rfl,acq,aA (n:=(i:Int)+1) (by omega) (by omega), ← hag,show (i:Int)+1=((i+1:Nat):Int) by omega]
   have ht:(tc z).1=(few 9 z).1:=rfl
   rw[ht]
   by_cases h0:(few 9 z).1=0
   ·rw[h0,show ((0:Int) != 0)=false from rfl,acq]
    refine (ih (i+1) f acc hr' (by omega) (by omega) (by omega)).trans ?_
    cases yP S r with
    | none=>rfl
    | some l=>rfl
   ·rw[show ((few 9 z).1 != 0)=true by simpa using h0,acr,aY (by rw[ZN];exact⟨acw (by omega),acw (by omega)⟩)]
    refine (ih (i+1) f _ hr' (by omega) (by omega) (by simp;omega)).trans ?_
    cases yP S r with
    | none=>rfl
    | some l=>
     show some (Sum.inr ((acc++[(k.1,k.2,tc z)])++l,M,()))=some (Sum.inr (acc++(if (few 9 z).1=0 then l else (k.1,k.2,tc z)::l),M,()))
     rw[acE h0,aak]
     rfl
  ·rw[acE hok,acE (show ¬okD z=true from fun e=>hok (acK e))]
   rfl
theorem UE {n:Nat} {S:List (Tw×Int)} (h:fS n S) (hn:n≤1000000):rm (S.map toW)=some ((GP S).1,(GP S).2,S.map toW,()):=by
 have hk:=Rq h hn
 have he:=V3 S
 have hp:=tF S
 have hl:=h.len
 have hkl:(ksS S).length≤1000000:=by rw[hp.length_eq,aaZ];omega
 obtain⟨M,hM⟩:∃ M:List (Tw×an),M=S.map toW:=⟨_,rfl⟩
 rw[← hM] at hk he ⊢
 unfold rm
 rw[aY hk,he]
 have loop:=Yx h hn hM (ksS S) hkl (fun k hk=>by
  obtain⟨p,hp',rfl⟩:=abe.1 (hp.mem_iff.1 hk)
  exact⟨_,Ry h.nd hp'⟩) (ksS S) 0
 have loop':∀ f,(ksS S).length<f→iter (X:=jb) (β:=ja) f ([],((ksS S).length:Int),0,ksS S,M,()) gp=_:=fun f hf=>loop f [] rfl (acd _) hf (abP _)
 rw[loop' _ (by rw[Int.natAbs_natCast];omega)]
 unfold GP
 cases yP S (ksS S) with
 | none=>rfl
 | some l=>rfl
theorem XN {n:Nat} {S:List (Tw×Int)} (hS:fS n S) (hn:n+100≤1000000) (t:List UInt8) (l l2:List ah) (c1 c2:Int) (a1 a2:List UInt8) (a3:Int) (cs:List ai) (hcs:cs.length≤100) (hc:∀ c∈cs,Mn c) (f:Nat) (hf:cs.length<f) {M:List (Tw×an)} (hM:M=S.map toW) {M':List (Tw×an)} (hM':M'=(w6 S cs).map toW):
 iter (X:=iZ) (β:=mA) f (t,l,c1,c2,cs,(cs.length:Int),0,a1,a2,a3,l2,M,()) mz=some (Sum.inr (t,l,c1,c2,a1,a2,a3,l2,M',())):=by
 refine bI (Inv:=fun i X=>∃ M1,M1=(w6 S (cs.take i)).map toW∧X=((t,l,c1,c2,cs,(cs.length:Int),(i:Int),a1,a2,a3,l2,M1,()):iZ)) cs.length (fun r=>r=some (Sum.inr (t,l,c1,c2,a1,a2,a3,l2,M',()))) ?_ ?_ f 0 _ ⟨M,hM,rfl⟩ (by omega) (by omega)
 ·rintro i _ again hi ⟨M1,hM1,rfl⟩ ih
  have hy:cs[i]? =some cs[i]:=aF hi
  have hm:cs[i]∈cs:=aaV hi
  have ets:cs.take (i+1)=cs.take i++[cs[i]]:=by rw[List.take_succ,hy];rfl
  have hSi:fS (n+(cs.take i).length) (w6 S (cs.take i)):=hS.Xy _ fun c hc'=>hc c (abg hc')
  have hti:(cs.take i).length≤100:=by rw[aa3];omega
  have hadd:=Jz hSi.sm (by omega) (ck cs[i]) (hc _ hm).d
  rw[← hM1] at hadd
  unfold mz
  dsimp only
  rw[aC (by omega),bD,hy,ace]
  refine (show _→_ from fun h=>h) ?_
  rw[show ((cs[i].1,cs[i].2.1):aU)=ck cs[i] from rfl,hadd,ace]
  dsimp only
  rw[aA (n:=(i:Int)+1) (by omega) (by omega)]
  exact ih _ ⟨_,by rw[ets,WG],rfl⟩
 ·rintro _ again ⟨M1,hM1,rfl⟩
  unfold mz
  dsimp only
  rw[aH (by omega)]
  rw[List.take_length] at hM1
  rw[hM1, ← hM']
def w8 (B:Nat→Bool) (l:List ah):Nat→List (Tw×Int)
 | 0=>[]
 | i+1=>if B i=true then w6 (w8 B l i) ((l[i]?).map (·.2.2.2)).get! else w8 B l i
theorem Ik {B:Nat→Bool} {l:List ah} (hl:Um l):∀ i,i≤l.length→fS (100*i) (w8 B l i)
 | 0,_=>fS.nil
 | i+1,hi=>by
  have ih:=Ik (B:=B) hl i (by omega)
  have hy:l[i]? =some l[i]:=aF (by omega)
  have hp:=hl l[i] (aaV (by omega))
  simp only[w8]
  split
  ·rw[hy]
   have:=ih.Xy l[i].2.2.2 hp.2
   exact⟨fun p h=>abQ (this.sm p h) (ab3 _ (by omega)),this.nd,this.st,by have:=this.len;show (w6 _ l[i].2.2.2).length≤_;omega⟩
  ·exact⟨fun p h=>abQ (ih.sm p h) (ab3 _ (by omega)),ih.nd,ih.st,by have:=ih.len;omega⟩
theorem Yn {a:aS} (hl:a.2.2.2.length≤500) (hp:Um a.2.2.2) (t:List UInt8) (B:Nat→Bool) (hB:∀ i,i<a.2.2.2.length→gM a (i:Int) t=some (B i,())) {M':List (Tw×an)} (hM':M'=(w8 B a.2.2.2 a.2.2.2.length).map toW) (f:Nat) (hf:a.2.2.2.length<f):
 iter (X:=jK) (β:=nL) f (t,a.2.2.2,(a.2.2.2.length:Int),0,a.1,a.2.1,a.2.2.1,a.2.2.2,[],()) nK=some (Sum.inr (M',())):=by
 refine bI (Inv:=fun i X=>∃ M1,M1=(w8 B a.2.2.2 i).map toW∧X=((t,a.2.2.2,(a.2.2.2.length:Int),(i:Int),a.1,a.2.1,a.2.2.1,a.2.2.2,M1,()):jK)) a.2.2.2.length (fun r=>r=some (Sum.inr (M',()))) ?_ ?_ f 0 _ ⟨[],rfl,rfl⟩ (by omega) (by omega)
 ·rintro i _ again hi ⟨M1,hM1,rfl⟩ ih
  have hy:a.2.2.2[i]? =some a.2.2.2[i]:=aF hi
  have hpi:=hp a.2.2.2[i] (aaV hi)
  have hSi:=Ik (B:=B) hp i (by omega)
  have hBi:gM (a.1,a.2.1,a.2.2.1,a.2.2.2) (i:Int) t=some (B i,()):=hB i hi
  unfold nK
  dsimp only
  rw[aC (by omega),bD,hy,ace,hBi,ace]
  dsimp only
  cases hb:B i with
  | false=>
   rw[ZW,acr,aA (n:=(i:Int)+1) (by omega) (by omega)]
   refine ih _ ⟨M1, ?_,rfl⟩
   rw[hM1]
   simp only[w8]
   rw[hb];rfl
  | true=>
   rw[ZX,acq]
   obtain⟨M2,hM2⟩:∃ M2:List (Tw×an),M2=(w6 (w8 B a.2.2.2 i) a.2.2.2[i].2.2.2).map toW:=⟨_,rfl⟩
   have h2:=fun (f:Nat) (hf:a.2.2.2[i].2.2.2.length<f)=>XN hSi (by omega) t a.2.2.2 a.2.2.2 (a.2.2.2.length:Int) (i:Int) a.1 a.2.1 a.2.2.1 a.2.2.2[i].2.2.2 hpi.1 hpi.2 f hf hM1 hM2
   rw[h2 _ (abR _ (abR _ (abR _ (abR _ (abS (by with_reducible repeat (first | exact Nat.zero_lt_two | refine abR _ ?_))))))),aV]
   dsimp only
   rw[aA (n:=(i:Int)+1) (by omega) (by omega)]
   refine ih _ ⟨M2, ?_,rfl⟩
   rw[hM2]
   simp only[w8]
   rw[hb,hy];rfl
 ·rintro _ again ⟨M1,hM1,rfl⟩
  unfold nK
  dsimp only
  rw[aH (by omega)]
  rw[hM1, ← hM']
theorem Sy {a:aS} (hok:Kz a) {t:List UInt8} (ht:t=[]∨(dh (fun x:ah=>x.1) t a.2.2.2).isSome=true):∀ i,i<a.2.2.2.length→gM a (i:Int) t=some (p9 a.2.2.2 t i,()):=fun i hi=>by
 by_cases h0:t=[]
 ·subst h0;rfl
 ·cases hT:dh (fun x:ah=>x.1) t a.2.2.2 with
  | none=>rw[hT] at ht;simp[h0] at ht
  | some T=>rw[Qo hok hi h0 hT];unfold p9;rw[acE h0,hT]
def Xv (l:List ah) (t:List UInt8):List (Tw×Int):=w8 (p9 l t) l l.length
noncomputable def C0 (a:aS) (t:List UInt8):List ax×Int:=if eH a≠0 then ([],eH a) else if t=[]∨(dh (fun x:ah=>x.1) t a.2.2.2).isSome=true then GP (Xv a.2.2.2 t) else ([],9)
theorem Kq (a:aS) (hf:FV a) (t:List UInt8):sO a t=some ((C0 a t).1,(C0 a t).2,()):=by
 unfold sO C0
 by_cases h:eH a=0
 rotate_left
 ·rw[acF h]
  unfold jc
  rw[mO a hf,ace]
  dsimp only
  rw[show (eH a != 0)=true by simpa using h,acr,ace]
  dsimp only
  rw[show (eH a != 0)=true by simpa using h,acr]
 rw[acE (by simpa using h),LM a hf h t,ace]
 dsimp only
 have hok:=p8 h
 by_cases ht:t=[]∨(dh (fun x:ah=>x.1) t a.2.2.2).isSome=true
 rotate_left
 ·rw[acE ht,acE ht];rfl
 rw[acF ht,acF ht,show ((0:Int) != 0)=false from rfl,acq]
 obtain⟨M,hM⟩:∃ M:List (Tw×an),M=(w8 (p9 a.2.2.2 t) a.2.2.2 a.2.2.2.length).map toW:=⟨_,rfl⟩
 have h2:=Yn hok.len (DC h) t (p9 a.2.2.2 t) (Sy hok ht) hM
 rw[h2 _ (abR _ (abS (by with_reducible repeat (first | exact Nat.zero_lt_two | refine abR _ ?_)))),aV]
 dsimp only
 have hS:=Ik (B:=p9 a.2.2.2 t) (DC h) a.2.2.2.length (abP _)
 have hl:=hok.len
 rw[hM,UE hS (by omega),ace]
 rfl
end Go.Md
set_option linter.all false
set_option maxRecDepth 20000
namespace Go.Md
open Go.Dn
def lk (c:ai):Tw:=(c.2.2.1,c.2.1)
def tY (art:List UInt8) (S:List (Tw×Int)) (cs:List ai):List (Tw×Int):=cs.foldl (fun S c=>if (c.1==art)=true then dK (lk c) (v9 c.2.2.2) S else S) S
theorem WH (art:List UInt8) (S:List (Tw×Int)) (cs:List ai) (c:ai):tY art S (cs++[c])=if (c.1==art)=true then dK (lk c) (v9 c.2.2.2) (tY art S cs) else tY art S cs:=by
 unfold tY;rw[List.foldl_append];rfl
def CoL (c:ai):Prop:=Mn c∧c.2.2.1.length≤1000
def PcL (l:List ah):Prop:=∀ p∈l,p.2.2.2.length≤100∧∀ c∈p.2.2.2,CoL c
theorem fS.mono {n m:Nat} {S:List (Tw×Int)} (h:fS n S) (hm:n≤m):fS m S:=
 ⟨fun p hp=>abQ (h.sm p hp) (ab3 _ hm),h.nd,h.st,abQ h.len hm⟩
theorem fS.YJ {n:Nat} {S:List (Tw×Int)} (h:fS n S) (art:List UInt8):∀ cs:List ai,(∀ c∈cs,CoL c)→fS (n+cs.length) (tY art S cs):=by
 intro cs
 induction cs generalizing n S with
 | nil=>intro _;exact h
 | cons c r ih=>
  intro hc
  have h1:=hc c abb
  have h2:fS (n+1) (if (c.1==art)=true then dK (lk c) (v9 c.2.2.2) S else S):=by
   split
   ·exact h.add (XI h1.1.d) ⟨h1.2,h1.1.n2⟩
   ·exact h.mono (by omega)
  have:=ih h2 fun c' hc'=>hc c' (aba _ hc')
  rw[aaX,show n+(r.length+1)=n+1+r.length by omega]
  exact this
theorem YK {n:Nat} {S:List (Tw×Int)} (hS:fS n S) (hn:n+100≤1000000) (art:List UInt8) (l:List ah) (c1 c2:Int) (cs:List ai) (hcs:cs.length≤100) (hc:∀ c∈cs,CoL c) (f:Nat) (hf:cs.length<f) {M:List (Tw×an)} (hM:M=S.map toW) {M':List (Tw×an)} (hM':M'=(tY art S cs).map toW):
 iter (X:=lE) (β:=pL) f (art,l,c1,c2,cs,(cs.length:Int),0,M,()) pK=some (Sum.inr (art,l,c1,c2,M',())):=by
 refine bI (Inv:=fun i X=>∃ M1,M1=(tY art S (cs.take i)).map toW∧X=((art,l,c1,c2,cs,(cs.length:Int),(i:Int),M1,()):lE)) cs.length (fun r=>r=some (Sum.inr (art,l,c1,c2,M',()))) ?_ ?_ f 0 _ ⟨M,hM,rfl⟩ (by omega) (by omega)
 ·rintro i _ again hi ⟨M1,hM1,rfl⟩ ih
  have hy:cs[i]? =some cs[i]:=aF hi
  have hm:cs[i]∈cs:=aaV hi
  have ets:cs.take (i+1)=cs.take i++[cs[i]]:=by rw[List.take_succ,hy];rfl
  have hSi:fS (n+(cs.take i).length) (tY art S (cs.take i)):=hS.YJ art _ fun c hc'=>hc c (abg hc')
  have hti:(cs.take i).length≤100:=by rw[aa3];omega
  have hadd:=Jz hSi.sm (by omega) (lk cs[i]) (hc _ hm).1.d
  rw[← hM1] at hadd
  have hadd':pe M1 (cs[i].2.2.1,cs[i].2.1) cs[i].2.2.2=some ((dK (lk cs[i]) (v9 cs[i].2.2.2) (tY art S (cs.take i))).map toW,()):=hadd
  have es:=WH art S (cs.take i) cs[i]
  rw[← ets] at es
  unfold pK
  dsimp only
  rw[aC (by omega),bD,hy,ace]
  cases hb:(cs[i].1==art) with
  | true=>
   rw[acF hb] at es
   rw[acr,hadd',ace]
   dsimp only
   rw[aA (n:=(i:Int)+1) (by omega) (by omega)]
   exact ih _ ⟨_,by rw[es],rfl⟩
  | false=>
   rw[acE (by rw[hb];simp)] at es
   rw[acq,aA (n:=(i:Int)+1) (by omega) (by omega)]
   exact ih _ ⟨_,by rw[es];exact hM1,rfl⟩
 ·rintro _ again ⟨M1,hM1,rfl⟩
  unfold pK
  dsimp only
  rw[aH (by omega)]
  rw[List.take_length] at hM1
  rw[hM1, ← hM']
end Go.Md
set_option linter.all false
set_option maxRecDepth 20000
namespace Go.Md
open Go.Dn
theorem L3 {a:aS} (h:eH a=0):PcL a.2.2.2:=by
 intro p hp
 have hpc:=DC h p hp
 refine⟨hpc.1,fun c hc=>⟨hpc.2 c hc, ?_⟩⟩
 have h3:cr (jY a.2.2.2) 0 a.2.2.2=0:=by
  unfold eH at h
  split at h
  ·omega
  split at h
  ·omega
  split at h
  ·omega
  split at h
  ·omega
  split at h
  ·omega
  omega
 obtain⟨i,hi⟩:=abd.1 hp
 have hq:=gT h3 i p hi
 unfold jY at hq
 split at hq
 ·omega
 split at hq
 ·omega
 split at hq
 ·omega
 unfold iV at hq
 split at hq
 ·omega
 obtain⟨j,hj⟩:=abd.1 hc
 have hz:=gT hq j c hj
 unfold BT at hz
 split at hz
 ·omega
 split at hz
 ·omega
 split at hz
 ·omega
 rename_i hn
 by_cases he:c.2.2.1=[]
 ·rw[he];exact acd _
 ·have:eZ c.2.2.1=true:=by
   cases hb:eZ c.2.2.1 with
   | true=>rfl
   | false=>
    rw[hb] at hn
    exact absurd (by simp[he]) hn
  exact Nq this
def fm (art:List UInt8) (l:List ah):Nat→List (Tw×Int)
 | 0=>[]
 | i+1=>tY art (fm art l i) ((l[i]?).map (·.2.2.2)).get!
theorem E2 {l:List ah} (hl:PcL l) (art:List UInt8):∀ i,i≤l.length→fS (100*i) (fm art l i)
 | 0,_=>fS.nil
 | i+1,hi=>by
  have ih:=E2 hl art i (by omega)
  have hy:l[i]? =some l[i]:=aF (by omega)
  have hp:=hl l[i] (aaV (by omega))
  simp only[fm]
  rw[hy]
  exact (ih.YJ art l[i].2.2.2 hp.2).mono (by omega)
theorem Y9 {l:List ah} (hl:l.length≤500) (hp:PcL l) (art:List UInt8) {M':List (Tw×an)} (hM':M'=(fm art l l.length).map toW) (f:Nat) (hf:l.length<f):
 iter (X:=mQ) (β:=rj) f (art,l,(l.length:Int),0,[],()) ri=some (Sum.inr (M',())):=by
 refine bI (Inv:=fun i X=>∃ M1,M1=(fm art l i).map toW∧X=((art,l,(l.length:Int),(i:Int),M1,()):mQ)) l.length (fun r=>r=some (Sum.inr (M',()))) ?_ ?_ f 0 _ ⟨[],rfl,rfl⟩ (by omega) (by omega)
 ·rintro i _ again hi ⟨M1,hM1,rfl⟩ ih
  have hy:l[i]? =some l[i]:=aF hi
  have hpi:=hp l[i] (aaV hi)
  have hSi:=E2 hp art i (by omega)
  obtain⟨M2,hM2⟩:∃ M2:List (Tw×an),M2=(tY art (fm art l i) l[i].2.2.2).map toW:=⟨_,rfl⟩
  have h2:=fun (f:Nat) (hf:l[i].2.2.2.length<f)=>YK hSi (by omega) art l (l.length:Int) (i:Int) l[i].2.2.2 hpi.1 hpi.2 f hf hM1 hM2
  unfold ri
  dsimp only
  rw[aC (by omega),bD,hy,ace]
  rw[h2 _ (abR _ (abR _ (abR _ (abR _ (abS (by with_reducible repeat (first | exact Nat.zero_lt_two | refine abR _ ?_))))))),aV]
  dsimp only
  rw[aA (n:=(i:Int)+1) (by omega) (by omega)]
  refine ih _ ⟨M2, ?_,rfl⟩
  rw[hM2]
  simp only[fm]
  rw[hy];rfl
 ·rintro _ again ⟨M1,hM1,rfl⟩
  unfold ri
  dsimp only
  rw[aH (by omega)]
  rw[hM1, ← hM']
def AB (S:List (Tw×Int)):List Tw→Option (List ax)
 | []=>some []
 | k::r=>if okD (Bu S k)=true then (AB S r).map fun l=>(k.1,k.2,tc (Bu S k))::l else none
def UR (S:List (Tw×Int)):List ax×Int:=match AB S (ksS S) with
 | some l=>(l,0)
 | none=>([],1)
theorem YM {n:Nat} {S:List (Tw×Int)} (h:fS n S) (hn:n≤1000000) {M:List (Tw×an)} (hM:M=S.map toW) (ks:List Tw) (hks:ks.length≤1000000) (hsub:∀ k∈ks,∃ z,dI k S=some z):
 ∀ (r:List Tw) (i f:Nat) (acc:List ax),ks.drop i=r→i≤ks.length→r.length<f→acc.length≤i→
 iter (X:=lF) (β:=lD) f (acc,(ks.length:Int),(i:Int),ks,M,()) iJ=
  some (match AB S r with | some l=>Sum.inr (acc++l,()) | none=>Sum.inl ([],1,())):=by
 have Ke:maxLen=9223372036854775807:=rfl
 intro r
 induction r with
 | nil=>
  intro i f acc hdr hi hf ha
  have:i=ks.length:=by
   have:=congrArg List.length hdr
   simp at this;omega
  subst this
  obtain⟨f,rfl⟩:∃ m,f=m+1:=⟨f - 1,by omega⟩
  rw[bO]
  unfold iJ
  dsimp only
  rw[aH (by omega)]
  simp only[AB,aal]
 | cons k r ih=>
  intro i f acc hdr hi hf ha
  have hki:ks[i]? =some k:=by
   have:=congrArg (·[0]?) hdr
   simpa [aaI] using this
  have hr':ks.drop (i+1)=r:=by
   have:=congrArg List.tail hdr
   simpa [abz] using this
  have hlt:=(aaL.1 hki).1
  obtain⟨z,hz⟩:=hsub k (abf hki)
  have hv:Bu S k=z:=by unfold Bu;rw[hz];rfl
  have hzb:=h.sm.le hn (ye hz)
  obtain⟨f,rfl⟩:∃ m,f=m+1:=⟨f - 1,by simp at hf;omega⟩
  simp only[aaX] at hf
  have hg:Option.getD (α:=an) (bZ (k:=aG) (v:=aI) M k) (false,[])=W z:=by
   rw[RB k S M hM,hz];rfl
  rw[bO]
  generalize hag:(fun y=>iter f y iJ)=again
  unfold iJ
  dsimp only
  rw[aC (by omega),aY (by simp only[ZN,acy];omega),aaf,hki,ace,hg,DB (TX hzb),ace]
  simp only[AB]
  rw[hv]
  by_cases hok:(few 9 z).1.natAbs≤1000000000000000
  ·rw[acF hok,acF (show okD z=true from acw hok)]
   dsimp only
   rw[show ((0:Int) != 0)=false from rfl,acq,aY (by rw[ZN];exact⟨acw (by omega),acw (by omega)⟩),aA (n:=(i:Int)+1) (by omega) (by omega), ← hag,show (i:Int)+1=((i+1:Nat):Int) by omega]
   refine (ih (i+1) f _ hr' (by omega) (by omega) (by simp;omega)).trans ?_
   cases AB S r with
   | none=>rfl
   | some l=>
    show some (Sum.inr ((acc++[(k.1,k.2,tc z)])++l,()))=some (Sum.inr (acc++(k.1,k.2,tc z)::l,()))
    rw[aak]
    rfl
  ·rw[acE hok,acE (show ¬okD z=true from fun e=>hok (acK e))]
   rfl
noncomputable def CD (a:aS) (art:List UInt8):List ax×Int:=if eH a≠0 then ([],eH a) else if eZ art=true then UR (fm art a.2.2.2 a.2.2.2.length) else ([],5)
theorem NJ (a:aS) (hf:FV a) (art:List UInt8):xB a art=some ((CD a art).1,(CD a art).2,()):=by
 unfold xB CD
 rw[mO a hf,ace]
 dsimp only
 by_cases h:eH a=0
 rotate_left
 ·rw[acF h,show (eH a != 0)=true by simpa using h,acr]
 rw[acE (by simpa using h),show (eH a != 0)=false by simpa using h,acq,yU,ace]
 dsimp only
 cases hn:eZ art with
 | false=>rw[ZW,acr,acE (by simp)]
 | true=>
  rw[ZX,acq,acF rfl]
  have hok:=p8 h
  have hl:=hok.len
  have hS:=E2 (L3 h) art a.2.2.2.length (abP _)
  obtain⟨M,hM⟩:∃ M:List (Tw×an),M=(fm art a.2.2.2 a.2.2.2.length).map toW:=⟨_,rfl⟩
  have h8:=Y9 hl (L3 h) art hM
  rw[h8 _ (abR _ (abS (by with_reducible repeat (first | exact Nat.zero_lt_two | refine abR _ ?_)))),aV]
  dsimp only
  have hk:=Rq hS (by omega)
  have he:=V3 (fm art a.2.2.2 a.2.2.2.length)
  have hp:=tF (fm art a.2.2.2 a.2.2.2.length)
  have hkl:(ksS (fm art a.2.2.2 a.2.2.2.length)).length≤1000000:=by
   have:=hS.len
   rw[hp.length_eq,aaZ];omega
  have hsub:∀ k∈ksS (fm art a.2.2.2 a.2.2.2.length),∃ z,dI k (fm art a.2.2.2 a.2.2.2.length)=some z:=fun k hk=>by
   obtain⟨p,hp',rfl⟩:=abe.1 (hp.mem_iff.1 hk)
   exact⟨_,Ry hS.nd hp'⟩
  rw[← hM] at hk he
  rw[aY hk,he]
  have h20:∀ f,(ksS (fm art a.2.2.2 a.2.2.2.length)).length<f→iter (X:=lF) (β:=lD) f ([],((ksS (fm art a.2.2.2 a.2.2.2.length)).length:Int),0,ksS (fm art a.2.2.2 a.2.2.2.length),M,()) iJ=_:=fun f hf=>YM hS (by omega) hM _ hkl hsub (ksS (fm art a.2.2.2 a.2.2.2.length)) 0 f [] rfl (acd _) hf (abP _)
  rw[h20 _ (by rw[Int.natAbs_natCast];omega)]
  unfold UR
  cases AB (fm art a.2.2.2 a.2.2.2.length) (ksS (fm art a.2.2.2 a.2.2.2.length)) with
  | none=>rfl
  | some l=>rfl
end Go.Md
set_option linter.all false
set_option maxRecDepth 20000
namespace Go.Md
open Go.Dn
structure SOr {κ:Type} (lt:κ→κ→Bool):Prop where
 irr:∀ a,lt a a=false
 tr:∀ {a b c},lt a b=true→lt b c=true→lt a c=true
 tri:∀ a b,lt a b=true∨a=b∨lt b a=true
theorem Jx {κ:Type} {lt:κ→κ→Bool} (irr:∀ a,lt a a=false) (tr:∀ {a b c},lt a b=true→lt b c=true→lt a c=true):∀ {l l':List κ},l.Pairwise (fun a b=>lt a b=true)→l'.Pairwise (fun a b=>lt a b=true)→(∀ x,x∈l↔x∈l')→l=l'
 | [],[],_,_,_=>rfl
 | [],y::r,_,_,hm=>by have:=(hm y).2 abb;cases this
 | x::l,[],_,_,hm=>by have:=(hm x).1 abb;cases this
 | x::l,y::r,h1,h2,hm=>by
  rw[abp] at h1 h2
  have hxy:x=y:=by
   rcases aa9.1 ((hm x).1 abb) with e | hx
   ·exact e
   rcases aa9.1 ((hm y).2 abb) with e | hy
   ·exact e.symm
   have a1:=h2.1 x hx
   have a2:=h1.1 y hy
   have a3:=tr a1 a2
   rw[irr] at a3;cases a3
  subst hxy
  have:l=r:=by
   refine Jx irr tr h1.2 h2.2 fun z=>⟨fun hz=> ?_,fun hz=> ?_⟩
   ·rcases aa9.1 ((hm z).1 (aba _ hz)) with e | hz'
    ·have:=h1.1 z hz;rw[e,irr] at this;cases this
    ·exact hz'
   ·rcases aa9.1 ((hm z).2 (aba _ hz)) with e | hz'
    ·have:=h2.1 z hz;rw[e,irr] at this;cases this
    ·exact hz'
  rw[this]
theorem PU {κ:Type} {lt:κ→κ→Bool} (h:SOr lt) {l l':List κ} (h1:l.Pairwise (fun a b=>lt a b=true)) (h2:l'.Pairwise (fun a b=>lt a b=true)) (hm:∀ x,x∈l↔x∈l'):l=l':=
 Jx h.irr h.tr h1 h2 hm
section
variable {κ:Type} [DecidableEq κ] (lt:κ→κ→Bool)
def gX (k:κ) (z:Int):List (κ×Int)→List (κ×Int)
 | []=>[(k,z)]
 | p::r=>if lt p.1 k=true then p::gX k z r else if p.1=k then (p.1,p.2+z)::r else (k,z)::p::r
def iG (k:κ):List (κ×Int)→Option Int
 | []=>none
 | p::r=>if k=p.1 then some p.2 else iG k r
def yG (R:List (κ×Int)):Prop:=R.Pairwise fun a b=>lt a.1 b.1=true
variable {lt}
theorem Qg {k:κ} {z:Int}:∀ {R:List (κ×Int)} {q:κ×Int},q∈gX lt k z R→q.1=k∨q∈R
 | [],q,h=>by simp[gX] at h;exact .inl (by rw[h])
 | p::r,q,h=>by
  unfold gX at h
  split at h
  ·rcases aa9.1 h with e | h
   ·exact .inr (by rw[e];exact abb)
   ·rcases Qg h with e | h
    ·exact .inl e
    ·exact .inr (aba _ h)
  ·split at h
   ·rename_i e
    rcases aa9.1 h with e2 | h
    ·exact .inl (by rw[e2];exact e)
    ·exact .inr (aba _ h)
   ·rcases aa9.1 h with e2 | h
    ·exact .inl (by rw[e2])
    ·exact .inr h
theorem N7 {k:κ} {z:Int}:∀ {R:List (κ×Int)} (x:κ),x∈(gX lt k z R).map (·.1)↔x=k∨x∈R.map (·.1)
 | [],x=>by simp[gX]
 | p::r,x=>by
  unfold gX
  split
  ·rw[aa5,aa9,N7 (R:=r) x,aa5,aa9]
   constructor
   ·rintro (h | h | h)
    ·exact .inr (.inl h)
    ·exact .inl h
    ·exact .inr (.inr h)
   ·rintro (h | h | h)
    ·exact .inr (.inl h)
    ·exact .inl h
    ·exact .inr (.inr h)
  ·split
   ·rename_i e
    simp only[aa5,aa9,e]
    constructor
    ·rintro (h | h)
     ·exact .inl h
     ·exact .inr (.inr h)
    ·rintro (h | h | h)
     ·exact .inl h
     ·exact .inl h
     ·exact .inr h
   ·simp only[aa5,aa9]
theorem Qh (ho:SOr lt) {k:κ} {z:Int}:∀ {R:List (κ×Int)},yG lt R→yG lt (gX lt k z R)
 | [],_=>by unfold gX yG;exact List.pairwise_singleton _ _
 | p::r,h=>by
  unfold yG at h
  rw[abp] at h
  unfold gX
  split
  ·rename_i hlt
   unfold yG
   rw[abp]
   refine⟨fun q hq=> ?_,Qh ho h.2⟩
   rcases Qg hq with e | hq
   ·rw[e];exact hlt
   ·exact h.1 q hq
  ·split
   ·unfold yG
    rw[abp]
    exact⟨fun q hq=>h.1 q hq,h.2⟩
   ·rename_i h1 h2
    have hkp:lt k p.1=true:=by
     rcases ho.tri k p.1 with a | a | a
     ·exact a
     ·exact absurd a.symm h2
     ·exact absurd a h1
    unfold yG
    rw[abp]
    refine⟨fun q hq=> ?_,abp.2 h⟩
    rcases aa9.1 hq with e | hq
    ·rw[e];exact hkp
    ·exact ho.tr hkp (h.1 q hq)
theorem LP {k:κ}:∀ {R:List (κ×Int)},k∉R.map (·.1)→iG k R=none
 | [],_=>rfl
 | p::r,h=>by
  simp only[aa5,aa9,acJ] at h
  unfold iG
  rw[acE h.1]
  exact LP h.2
theorem Ev (ho:SOr lt) {k:κ} {z:Int} (j:κ):∀ {R:List (κ×Int)},yG lt R→iG j (gX lt k z R)=if j=k then some ((iG k R).getD 0+z) else iG j R
 | [],_=>by
  unfold gX
  by_cases e:j=k
  ·rw[acF e];simp[iG,e]
  ·rw[acE e];simp[iG,e]
 | p::r,h=>by
  unfold yG at h
  rw[abp] at h
  unfold gX
  split
  ·rename_i hlt
   have hpk:k≠p.1:=fun e=>by rw[← e,ho.irr] at hlt;cases hlt
   by_cases e:j=k
   ·rw[acF e]
    have hpj:j≠p.1:=by rw[e];exact hpk
    show (if j=p.1 then some p.2 else iG j (gX lt k z r))=some (((if k=p.1 then some p.2 else iG k r)).getD 0+z)
    rw[acE hpj,Ev ho j h.2,acF e,acE hpk]
   ·rw[acE e]
    show (if j=p.1 then some p.2 else iG j (gX lt k z r))=(if j=p.1 then some p.2 else iG j r)
    rw[Ev ho j h.2,acE e]
  ·split
   ·rename_i h1 h2
    by_cases e:j=k
    ·rw[acF e]
     show (if j=p.1 then some (p.2+z) else iG j r)=some (((if k=p.1 then some p.2 else iG k r)).getD 0+z)
     rw[acF (e.trans h2.symm),acF h2.symm];rfl
    ·rw[acE e]
     show (if j=p.1 then some (p.2+z) else iG j r)=(if j=p.1 then some p.2 else iG j r)
     have:j≠p.1:=fun e2=>e (e2.trans h2)
     rw[acE this,acE this]
   ·rename_i h1 h2
    have hk:k∉(p::r).map (·.1):=by
     have hkp:lt k p.1=true:=by
      rcases ho.tri k p.1 with a | a | a
      ·exact a
      ·exact absurd a.symm h2
      ·exact absurd a h1
     intro hm
     rw[aa5] at hm
     rcases aa9.1 hm with e | hm
     ·exact h2 e.symm
     ·obtain⟨q,hq,e⟩:=abe.1 hm
      have:=ho.tr hkp (h.1 q hq)
      rw[e,ho.irr] at this;cases this
    by_cases e:j=k
    ·rw[acF e,LP hk]
     show (if j=k then some z else _)=_
     rw[acF e];simp
    ·rw[acE e]
     show (if j=k then some z else iG j (p::r))=_
     rw[acE e]
def tN (lt:κ→κ→Bool) (k:κ):List κ→Nat
 | []=>0
 | p::r=>if lt p k=true then tN lt k r+1 else 0
theorem Ue (k:κ):∀ l:List κ,tN lt k l≤l.length
 | []=>abP _
 | p::r=>by
  unfold tN
  split
  ·have:=Ue k r;simp;omega
  ·simp
theorem TI (k:κ) (z:Int):∀ R:List (κ×Int),gX lt k z R=(match R[tN lt k (R.map (·.1))]? with
 | some p=>if p.1=k then R.set (tN lt k (R.map (·.1))) (k,p.2+z) else R.take (tN lt k (R.map (·.1)))++(k,z)::R.drop (tN lt k (R.map (·.1)))
 | none=>R++[(k,z)])
 | []=>rfl
 | p::r=>by
  unfold gX
  rw[aa5]
  unfold tN
  split
  ·rename_i hlt
   rw[aaG,TI k z r]
   cases hq:r[tN lt k (r.map (·.1))]? with
   | none=>rfl
   | some q=>
    dsimp only
    split<;>rfl
  ·rename_i hlt
   show _=(if p.1=k then _ else _)
   split
   ·rename_i e
    simp[e]
   ·rfl
end
def gy (a b:Tw):Bool:=decide (cz a b<0)
theorem tZ {a b:Tw}:gy a b=true↔cz a b<0:=by unfold gy;exact decide_eq_true_iff
theorem xU {a b c:Tw} (h1:cz a b<0) (h2:cz b c<0):cz a c<0:=by
 rw[yA] at h1 h2 ⊢
 rcases h1 with h1 | ⟨e1,h1⟩<;>rcases h2 with h2 | ⟨e2,h2⟩
 ·exact .inl (jw h1 h2)
 ·exact .inl (by rw[← e2];exact h1)
 ·exact .inl (by rw[e1];exact h2)
 ·exact .inr ⟨e1.trans e2,jw h1 h2⟩
theorem Ci (a:Tw):¬ cz a a<0:=by
 rw[yA]
 rintro (h | ⟨_,h⟩)<;>rw[eW] at h<;>cases h
theorem Vo:SOr gy:=⟨fun a=>by
 cases h:gy a a with
 | false=>rfl
 | true=>exact absurd (tZ.1 h) (Ci a),fun h1 h2=>tZ.2 (xU (tZ.1 h1) (tZ.1 h2)),
 fun a b=>by
  rcases uD a b with h | h | h
  ·exact .inl (tZ.2 h)
  ·exact .inr (.inl h)
  ·exact .inr (.inr (tZ.2 h))⟩
structure jV (R S:List (Tw×Int)):Prop where
 srt:yG gy R
 look:∀ k,iG k R=dI k S
 keys:∀ k,k∈R.map (·.1)↔k∈S.map (·.1)
theorem jV.nil:jV [] []:=⟨List.Pairwise.nil,fun _=>rfl,fun _=>Iff.rfl⟩
theorem LQ (k:Tw) (z:Int) (j:Tw):∀ S:List (Tw×Int),dI j (dK k z S)=if j=k then some ((dI k S).getD 0+z) else dI j S
 | []=>by
  by_cases e:j=k
  ·rw[acF e];simp[dK,dI,e]
  ·rw[acE e];simp[dK,dI,e]
 | p::r=>by
  unfold dK
  split
  ·rename_i h
   by_cases e:j=k
   ·rw[acF e]
    show (if j=k then some (p.2+z) else dI j r)=some (((if k=p.1 then some p.2 else dI k r)).getD 0+z)
    rw[acF e,acF h];rfl
   ·rw[acE e]
    show (if j=k then some (p.2+z) else dI j r)=(if j=p.1 then some p.2 else dI j r)
    rw[acE e,acE (fun e2=>e (e2.trans h.symm))]
  ·rename_i h
   show (if j=p.1 then some p.2 else dI j (dK k z r))=_
   rw[LQ k z j r]
   by_cases e:j=k
   ·rw[acF e,acF e,acE (fun e2=>h (e.symm.trans e2))]
    show _=some (((if k=p.1 then some p.2 else dI k r)).getD 0+z)
    rw[acE h]
   ·rw[acE e,acE e];rfl
theorem Qj (k:Tw) (z:Int) (x:Tw):∀ S:List (Tw×Int),x∈(dK k z S).map (·.1)↔x=k∨x∈S.map (·.1)
 | []=>by simp[dK]
 | p::r=>by
  unfold dK
  split
  ·rename_i h
   simp only[aa5,aa9, ← h]
   constructor
   ·rintro (h | h)
    ·exact .inl h
    ·exact .inr (.inr h)
   ·rintro (h | h | h)
    ·exact .inl h
    ·exact .inl h
    ·exact .inr h
  ·rw[aa5,aa9,Qj k z x r,aa5,aa9]
   constructor
   ·rintro (h | h | h)
    ·exact .inr (.inl h)
    ·exact .inl h
    ·exact .inr (.inr h)
   ·rintro (h | h | h)
    ·exact .inr (.inl h)
    ·exact .inl h
    ·exact .inr (.inr h)
theorem jV.add {R S:List (Tw×Int)} (h:jV R S) (k:Tw) (z:Int):jV (gX gy k z R) (dK k z S):=
 ⟨Qh Vo h.srt,fun j=>by rw[Ev Vo j h.srt,LQ,h.look,h.look],fun x=>by rw[N7,Qj,h.keys]⟩
theorem X0 {S:List (Tw×Int)} (hnd:(S.map (·.1)).Nodup):(ksS S).Pairwise fun a b=>gy a b=true:=by
 have hs:(ksS S).Pairwise fun x y=>(!decide (cz y x<0))=true:=by
  refine abt ?_ ?_ _
  ·intro a b c h1 h2
   rw[ZV,acv] at h1 h2 ⊢
   intro hca
   rcases uD b c with h | h | h
   ·exact h1 (xU h hca)
   ·rw[h] at h1;exact h1 hca
   ·exact h2 h
  ·intro a b
   rw[ZZ,ZV,ZV,acv,acv]
   rcases uD a b with h | h | h
   ·exact .inl fun h2=>Ci _ (xU h h2)
   ·rw[h];exact .inl (Ci _)
   ·exact .inr fun h2=>Ci _ (xU h h2)
 have hn:(ksS S).Pairwise fun x y=>x≠y:=(tF S).nodup_iff.2 hnd
 refine (hs.and hn).imp ?_
 intro a b ⟨h1,h2⟩
 rw[ZV,acv] at h1
 rcases uD a b with h | h | h
 ·exact tZ.2 h
 ·exact absurd h h2
 ·exact absurd h h1
theorem jV.ks {R S:List (Tw×Int)} (h:jV R S) (hnd:(S.map (·.1)).Nodup):R.map (·.1)=ksS S:=by
 refine PU Vo ?_ (X0 hnd) fun x=> ?_
 ·rw[abr];exact h.srt
 ·rw[h.keys,(tF S).mem_iff]
theorem Rx {R:List (Tw×Int)} (h:yG gy R) {p:Tw×Int} (hp:p∈R):iG p.1 R=some p.2:=by
 induction R with
 | nil=>cases hp
 | cons q r ih=>
  unfold yG at h
  rw[abp] at h
  unfold iG
  rcases aa9.1 hp with rfl | hp
  ·rw[acF rfl]
  ·rw[acE (fun e=>by have:=h.1 p hp;rw[e,Vo.irr] at this;cases this)]
   exact ih h.2 hp
theorem jV.val {R S:List (Tw×Int)} (h:jV R S) {p:Tw×Int} (hp:p∈R):Bu S p.1=p.2:=by
 unfold Bu
 rw[← h.look,Rx h.srt hp];rfl
end Go.Md
set_option linter.all false
set_option maxRecDepth 20000
namespace Go.Md
open Go.Dn
def kC (p:Tw×Int):ai:=(p.1.1,p.1.2,[],0,0)
def vN (p:Tw×Int):aa:=N p.2
theorem X7 (a k:Tw):∃ c,fE (a.1,a.2,[],0,0) (k.1,k.2,[],0,0)=some (c,())∧decide (c<0)=gy a k:=by
 refine⟨_,vY _ _, ?_⟩
 unfold Cp gy cz
 dsimp only
 have h0:Lib.compareBytes ([]:List UInt8) []=0:=rfl
 rw[h0]
 unfold cr
 by_cases h:Lib.compareBytes a.1 k.1=0
 ·rw[h]
  unfold cr
  by_cases h2:Lib.compareBytes a.2 k.2=0
  ·rw[h2];rfl
  ·simp[h2]
 ·rw[show (Lib.compareBytes a.1 k.1==0)=false by simpa using h];simp[h]
theorem YR (L:List aa) (n:Nat) (hn:n≤L.length) (x y:aa):(L.take n++x::L.drop n)[n]? =some x∧(L.take n++x::L.drop n).set n y=L.take n++y::L.drop n:=by
 have h:(L.take n).length=n:=by rw[aa3];omega
 constructor
 ·rw[aaF (by omega),h,Nat.sub_self];rfl
 ·rw[List.set_append_right _ _ (by omega),h,Nat.sub_self];rfl
theorem WL {R:List (Tw×Int)} (hl:R.length≤1000000) (k:Tw) (s:Bool) (d:List Int) (V:List aa):
 ∀ (r:List (Tw×Int)) (i f:Nat),R.drop i=r→i≤R.length→r.length<f→
  iter (X:=pP) (β:=pO) f ((i:Int),k.1,k.2,[],0,0,s,d,R.map kC,V,()) lP=some (Sum.inr (((i+tN gy k (r.map (·.1)):Nat):Int),k.1,k.2,[],0,0,s,d,R.map kC,V,())):=by
 intro r
 induction r with
 | nil=>
  intro i f hdr hi hf
  have:i=R.length:=by
   have:=congrArg List.length hdr
   simp at this;omega
  obtain⟨f,rfl⟩:∃ m,f=m+1:=⟨f - 1,by omega⟩
  rw[bO]
  unfold lP
  dsimp only
  rw[aaZ,aH (by omega),ace]
  rfl
 | cons x r ih=>
  intro i f hdr hi hf
  have hx:R[i]? =some x:=by
   have:=congrArg (·[0]?) hdr
   simpa [aaI] using this
  have hr':R.drop (i+1)=r:=by
   have:=congrArg List.tail hdr
   simpa [abz] using this
  have hlt:=(aaL.1 hx).1
  obtain⟨f,rfl⟩:∃ m,f=m+1:=⟨f - 1,by simp at hf;omega⟩
  simp only[aaX] at hf
  have hp:tN gy k ((x::r).map (·.1))=if gy x.1 k=true then tN gy k (r.map (·.1))+1 else 0:=rfl
  obtain⟨c,hc,hd⟩:=X7 x.1 k
  rw[bO,hp]
  generalize hag:(fun y=>iter f y lP)=again
  unfold lP
  dsimp only
  rw[aaZ,aC (by omega),aY (by rw[ZN];exact⟨acw (by omega),acw (by omega)⟩),aaf,aaM,hx]
  dsimp only[Option.map_some]
  rw[ace,show kC x=(x.1.1,x.1.2,[],0,0) from rfl,hc,ace,ace]
  dsimp only
  rw[hd]
  cases hb:gy x.1 k with
  | true=>
   rw[acr,acF rfl,aA (n:=(i:Int)+1) (by omega) (by omega), ← hag,show (i:Int)+1=((i+1:Nat):Int) by omega]
   refine (ih (i+1) f hr' (by omega) (by omega)).trans ?_
   rw[show i+1+tN gy k (r.map (·.1))=i+(tN gy k (r.map (·.1))+1) by omega]
  | false=>rw[acq,acE (by simp)];rfl
theorem Vm {R:List (Tw×Int)} (hl:R.length≤1000000) (hb:∀ p∈R,Le 60 p.2) (k:Tw) {z:Int} (hz:Le 60 z):
 mT (R.map kC,R.map vN,()) (k.1,k.2,[],0,0) (N z)=some (((gX gy k z R).map kC,(gX gy k z R).map vN,()),()):=by
 unfold mT
 have h0:=WL hl k (N z).1 (N z).2 (R.map vN) R 0 (Int.natAbs (0:Int)+(k.1.length+(k.2.length+(List.length ([]:List UInt8)+(Int.natAbs (0:Int)+(Int.natAbs (0:Int)+(List.length (N z).2+(List.length (R.map kC)+(List.length (R.map vN)+2))))))))) rfl (acd _) (by rw[aaZ,aaZ];omega)
 rw[show ((0:Nat):Int)=0 from rfl,ab9] at h0
 rw[h0,aV]
 dsimp only
 rw[aaZ]
 have hle:=Ue (lt:=gy) k (R.map (·.1))
 rw[aaZ] at hle
 have haR:=TI (lt:=gy) k z R
 generalize tN gy k (R.map (·.1))=n at*
 have hinsC:fQ (R.map kC) (n:Int) [(k.1,k.2,[],0,0)]=some ((R.take n++(k,z)::R.drop n).map kC,()):=by
  show sL 64 _ _ _=_
  unfold sL
  rw[show (decide (0≤(n:Int))&&(decide ((n:Int)≤((R.map kC).length:Int))&&(decide (0<[((k.1,k.2,[],0,0):ai)].length)&&(decide (((R.map kC).length+[((k.1,k.2,[],0,0):ai)].length)*64≤140737488355328)&&decide ((R.map kC).length+[((k.1,k.2,[],0,0):ai)].length≤4611686018427387904)))))=true by
   simp only[ZN,acy,List.length_singleton,aaZ]
   omega]
  rw[acr,aaf,List.map_append,aa5,List.map_take,List.map_drop]
  rfl
 have hinsN:dF (R.map vN) (n:Int) [(false,[])]=some ((R.map vN).take n++(false,[])::(R.map vN).drop n,()):=by
  show sL 32 _ _ _=_
  unfold sL
  rw[show (decide (0≤(n:Int))&&(decide ((n:Int)≤((R.map vN).length:Int))&&(decide (0<[((false,[]):aa)].length)&&(decide (((R.map vN).length+[((false,[]):aa)].length)*32≤140737488355328)&&decide ((R.map vN).length+[((false,[]):aa)].length≤4611686018427387904)))))=true by
   simp only[ZN,acy,List.length_singleton,aaZ]
   omega]
  rw[acr,aaf]
  rfl
 obtain⟨g1,g2⟩:=YR (R.map vN) n (by rw[aaZ];exact hle) (false,[]) (N (0+z))
 have hlen:((R.map vN).take n++(false,[])::(R.map vN).drop n).length=R.length+1:=by
  rw[aaW,aaX,aa3,aaY,aaZ];omega
 have zn:=Nat.lt_trans (hz.n (by omega)) (show 90<10000 by omega)
 have g3:(R.map vN).take n++N (0+z)::(R.map vN).drop n=(R.take n++(k,z)::R.drop n).map vN:=by
  rw[List.map_append,aa5,List.map_take,List.map_drop,Int.zero_add];rfl
 cases hg:R[n]? with
 | none=>
  have hn:n=R.length:=by
   have:=List.getElem?_eq_none_iff.1 hg
   omega
  rw[hg] at haR
  have e:gX gy k z R=R.take n++(k,z)::R.drop n:=by rw[haR,hn,List.take_length,List.drop_length]
  rw[show (((n:Nat):Int)==((R.length:Nat):Int))=true by rw[hn];simp,acr,hinsC,ace,hinsN,ace,aV]
  dsimp only
  rw[aY (by rw[ZN,hlen];exact⟨acw (by omega),acw (by omega)⟩),aaf,g1,ace,show ((false,[]):aa)=N 0 from rfl,show ((N z).1,(N z).2)=N z from rfl,nS _ _ (by decide) zn,ace]
  dsimp only
  rw[show N 0=((false,[]):aa) from rfl,aY (by rw[ZN,hlen];exact⟨acw (by omega),acw (by omega)⟩),ace,g2,g3,e]
 | some p=>
  have hlt:=(aaL.1 hg).1
  rw[hg] at haR
  dsimp only at haR
  have hc:(!((p.1.1==k.1)&&((p.1.2==k.2)&&((([]:List UInt8)==[])&&((((0:Int)==0)&&(((0:Int)==0)&&true))&&true)))))= !decide (p.1=k):=by
   congr 1
   by_cases h1:p.1.1=k.1
   ·by_cases h2:p.1.2=k.2
    ·rw[acw (Prod.ext h1 h2)];simp[h1,h2]
    ·rw[acu (fun e=>h2 (by rw[e]))];simp[h2]
   ·rw[acu (fun e=>h1 (by rw[e]))];simp[h1]
  rw[show (((n:Nat):Int)==((R.length:Nat):Int))=false by rw[acn];omega,acq,aY (by rw[ZN];exact⟨acw (by omega),acw (by omega)⟩),aaf,aaM,hg]
  dsimp only[Option.map_some]
  rw[ace]
  dsimp only[kC]
  rw[hc]
  by_cases hk:p.1=k
  ·rw[acF hk] at haR
   rw[acw hk,ZX,acq,aV]
   dsimp only
   have hpb:=hb p (abf hg)
   rw[aY (by rw[ZN,aaZ];exact⟨acw (by omega),acw (by omega)⟩),aaf,aaM,hg]
   dsimp only[Option.map_some]
   rw[ace,show ((N z).1,(N z).2)=N z from rfl,show vN p=N p.2 from rfl,nS _ _ (Nat.lt_trans (hpb.n (by omega)) (by omega)) zn,ace]
   dsimp only
   rw[aY (by rw[ZN,aaZ];exact⟨acw (by omega),acw (by omega)⟩),ace,haR,List.map_set,List.map_set]
   have es:(R.map kC).set n (kC (k,p.2+z))=R.map kC:=by
    have h5:(R.map kC)[n]? =some (kC (k,p.2+z)):=by rw[aaM,hg, ← hk];rfl
    apply aay
    intro j
    rw[aaP]
    split
    ·rename_i hj
     subst hj
     rw[acF (by rw[aaZ];exact hlt),h5]
    ·rfl
   rw[es]
   rfl
  ·rw[acE hk] at haR
   rw[acu hk,ZW,acr]
   rw[hinsC,ace,hinsN,ace,aV]
   dsimp only
   rw[aY (by rw[ZN,hlen];exact⟨acw (by omega),acw (by omega)⟩),aaf,g1,ace,show ((false,[]):aa)=N 0 from rfl,show ((N z).1,(N z).2)=N z from rfl,nS _ _ (by decide) zn,ace]
   dsimp only
   rw[show N 0=((false,[]):aa) from rfl,aY (by rw[ZN,hlen];exact⟨acw (by omega),acw (by omega)⟩),ace,g2,g3,haR]
theorem jV.mem {R S:List (Tw×Int)} (h:jV R S) {p:Tw×Int} (hp:p∈R):p∈S:=by
 have:=h.look p.1
 rw[Rx h.srt hp] at this
 exact ye this.symm
theorem jV.len {R S:List (Tw×Int)} (h:jV R S) (hnd:(S.map (·.1)).Nodup):R.length=S.length:=by
 have h1:=congrArg List.length (h.ks hnd)
 rw[aaZ] at h1
 rw[h1,(tF S).length_eq,aaZ]
theorem XD {R S:List (Tw×Int)} (h:jV R S):∀ (r:List (Tw×Int)),(∀ p∈r,p∈R)→yP S (r.map (·.1))=(if r.all (fun p=>okD p.2)=true then some ((r.filter fun p=> !((few 9 p.2).1==0)).map fun p=>(p.1.1,p.1.2,tc p.2)) else none)
 | [],_=>rfl
 | p::r,hm=>by
  have ih:=XD h r fun q hq=>hm q (aba _ hq)
  rw[aa5]
  unfold yP
  rw[ih,h.val (hm p abb),aag]
  cases ho:okD p.2 with
  | false=>simp
  | true=>
   rw[acF rfl,Z0]
   by_cases ha:r.all (fun p=>okD p.2)=true
   ·rw[acF ha,acF ha,acj,aaA]
    by_cases h0:(few 9 p.2).1=0
    ·rw[acF h0];simp[h0]
    ·rw[acE h0];simp[h0]
   ·rw[acE ha,acE ha];rfl
theorem XG {R S:List (Tw×Int)} (h:jV R S):∀ (r:List (Tw×Int)),(∀ p∈r,p∈R)→AB S (r.map (·.1))=(if r.all (fun p=>okD p.2)=true then some (r.map fun p=>(p.1.1,p.1.2,tc p.2)) else none)
 | [],_=>rfl
 | p::r,hm=>by
  have ih:=XG h r fun q hq=>hm q (aba _ hq)
  rw[aa5]
  unfold AB
  rw[ih,h.val (hm p abb),aag]
  cases ho:okD p.2 with
  | false=>simp
  | true=>
   rw[acF rfl,Z0]
   by_cases ha:r.all (fun p=>okD p.2)=true
   ·rw[acF ha,acF ha];rfl
   ·rw[acE ha,acE ha];rfl
theorem XU {R:List (Tw×Int)} (hl:R.length≤1000000) (hb:∀ p∈R,Le 60 p.2):
 ∀ (r:List (Tw×Int)) (i f:Nat) (acc:List ax),R.drop i=r→i≤R.length→r.length<f→acc.length≤i→
  iter (X:=mC) (β:=mB) f (acc,(R.length:Int),(i:Int),R.map kC,R.map vN,()) je=
   some (if r.all (fun p=>okD p.2)=true then Sum.inr (acc++(r.filter fun p=> !((few 9 p.2).1==0)).map fun p=>(p.1.1,p.1.2,tc p.2),R.map kC,R.map vN,()) else Sum.inl ([],1,(R.map kC,R.map vN,()),())):=by
 have Ke:maxLen=9223372036854775807:=rfl
 intro r
 induction r with
 | nil=>
  intro i f acc hdr hi hf ha
  have:i=R.length:=by
   have:=congrArg List.length hdr
   simp at this;omega
  obtain⟨f,rfl⟩:∃ m,f=m+1:=⟨f - 1,by omega⟩
  rw[bO]
  unfold je
  dsimp only
  rw[aH (by omega)]
  simp
 | cons p r ih=>
  intro i f acc hdr hi hf ha
  have hx:R[i]? =some p:=by
   have:=congrArg (·[0]?) hdr
   simpa [aaI] using this
  have hr':R.drop (i+1)=r:=by
   have:=congrArg List.tail hdr
   simpa [abz] using this
  have hlt:=(aaL.1 hx).1
  have hpb:=hb p (abf hx)
  obtain⟨f,rfl⟩:∃ m,f=m+1:=⟨f - 1,by simp at hf;omega⟩
  simp only[aaX] at hf
  rw[bO]
  generalize hag:(fun y=>iter f y je)=again
  unfold je
  dsimp only
  rw[aC (by omega),aY (by rw[ZN,aaZ];exact⟨acw (by omega),acw (by omega)⟩),aaf,aaM,hx]
  dsimp only[Option.map_some]
  rw[ace,aY (by rw[ZN,aaZ];exact⟨acw (by omega),acw (by omega)⟩),aaM,hx]
  dsimp only[Option.map_some]
  rw[ace,show vN p=N p.2 from rfl,Jr _ (hpb.mono (by omega)),ace,aag,aaA]
  by_cases hok:(few 9 p.2).1.natAbs≤1000000000000000
  ·rw[acF hok,show okD p.2=true from acw hok,Z0]
   dsimp only
   rw[show ((0:Int) != 0)=false from rfl,acq,aA (n:=(i:Int)+1) (by omega) (by omega),show (i:Int)+1=((i+1:Nat):Int) by omega]
   by_cases h0:(few 9 p.2).1=0
   ·rw[show ((few 9 p.2).1 != 0)=false by simpa using h0,acq, ← hag]
    refine (ih (i+1) f acc hr' (by omega) (by omega) (by omega)).trans ?_
    simp[h0]
   ·rw[show ((few 9 p.2).1 != 0)=true by simpa using h0,acr,aY (by rw[ZN];exact⟨acw (by omega),acw (by omega)⟩), ← hag]
    refine (ih (i+1) f _ hr' (by omega) (by omega) (by simp;omega)).trans ?_
    rw[show (!((few 9 p.2).1==0))=true by simpa using h0,acF rfl,aa5,aak]
    rfl
  ·rw[acE hok,show okD p.2=false from acu hok,Bool.false_and,acE (by simp)]
   rfl
theorem Sh {R S:List (Tw×Int)} (h:jV R S) (hnd:(S.map (·.1)).Nodup) (hl:R.length≤1000000) (hb:∀ p∈R,Le 60 p.2):∃ q,rz (R.map kC,R.map vN,())=some ((GP S).1,(GP S).2,q):=by
 unfold rz GP
 have h1:=XU hl hb R 0 (List.length ([]:List ax)+(Int.natAbs ((List.length (R.map kC):Int))+(Int.natAbs (0:Int)+(List.length (R.map kC)+(List.length (R.map vN)+2))))) [] rfl (acd _) (by rw[aaZ];omega) (abP _)
 rw[show ((0:Nat):Int)=0 from rfl] at h1
 have e:((R.map kC).length:Int)=(R.length:Int):=by rw[aaZ]
 rw[← e] at h1
 rw[h1, ← h.ks hnd,XD h R fun p hp=>hp]
 by_cases ha:R.all (fun p=>okD p.2)=true
 ·rw[acF ha,acF ha,aV]
  exact⟨_,rfl⟩
 ·rw[acE ha,acE ha,lu]
  exact⟨_,rfl⟩
end Go.Md
set_option linter.all false
set_option maxRecDepth 20000
namespace Go.Md
open Go.Dn
structure RS (n:Nat) (R S:List (Tw×Int)):Prop where
 same:jV R S
 ok:fS n S
theorem RS.nil:RS 0 [] []:=⟨jV.nil,fS.nil⟩
theorem RS.len {n:Nat} {R S:List (Tw×Int)} (h:RS n R S):R.length≤n:=by rw[h.same.len h.ok.nd];exact h.ok.len
theorem RS.le {n:Nat} {R S:List (Tw×Int)} (h:RS n R S) (hn:n≤1000000):∀ p∈R,Le 60 p.2:=fun p hp=>by
 have:=h.ok.sm.le hn (h.same.mem hp)
 show p.2.natAbs≤10 ^ 60
 omega
theorem RS.mono {n m:Nat} {R S:List (Tw×Int)} (h:RS n R S) (hm:n≤m):RS m R S:=⟨h.same,h.ok.mono hm⟩
theorem RS.add {n:Nat} {R S:List (Tw×Int)} (h:RS n R S) {k:Tw} {z:Int} (hz:z.natAbs≤10 ^ 24) (hk:k.1.length≤1000∧k.2.length≤1000):RS (n+1) (gX gy k z R) (dK k z S):=⟨h.same.add k z,h.ok.add hz hk⟩
theorem RS.call {n:Nat} {R S:List (Tw×Int)} (h:RS n R S) (hn:n≤1000000) (k:Tw) {z:Int} (hz:z.natAbs≤10 ^ 24):
 mT (R.map kC,R.map vN,()) (k.1,k.2,[],0,0) (N z)=some (((gX gy k z R).map kC,(gX gy k z R).map vN,()),()):=by
 refine Vm (by have:=h.len;omega) (h.le hn) k ?_
 show z.natAbs≤10 ^ 60
 omega
theorem XO (L:List Int) (q1 q2:Int) (a1 a2:List UInt8) (a3:Int) (l:List ah) (cs:List ai) (hcl:cs.length≤100) (hc:∀ c∈cs,Mn c):
 ∀ (r:List ai) (i f n:Nat) (R S:List (Tw×Int)),cs.drop i=r→i≤cs.length→r.length<f→RS n R S→n+r.length≤1000000→
  ∃ R',RS (n+r.length) R' (w6 S r)∧iter (X:=ry) (β:=ru) f (L,q1,q2,cs,(cs.length:Int),(i:Int),a1,a2,a3,l,R.map kC,R.map vN,()) mR=some (Sum.inr (L,q1,q2,a1,a2,a3,l,R'.map kC,R'.map vN,())):=by
 intro r
 induction r with
 | nil=>
  intro i f n R S hdr hi hf hR hn
  have:i=cs.length:=by
   have:=congrArg List.length hdr
   simp at this;omega
  obtain⟨f,rfl⟩:∃ m,f=m+1:=⟨f - 1,by omega⟩
  refine⟨R,hR, ?_⟩
  rw[bO]
  unfold mR
  dsimp only
  rw[aH (by omega)]
 | cons c r ih=>
  intro i f n R S hdr hi hf hR hn
  have hx:cs[i]? =some c:=by
   have:=congrArg (·[0]?) hdr
   simpa [aaI] using this
  have hr':cs.drop (i+1)=r:=by
   have:=congrArg List.tail hdr
   simpa [abz] using this
  have hlt:=(aaL.1 hx).1
  have hcc:=hc c (abf hx)
  obtain⟨f,rfl⟩:∃ m,f=m+1:=⟨f - 1,by simp at hf;omega⟩
  simp only[aaX] at hf hn
  have hv:=Io hcc.d
  obtain⟨R',g1,g2⟩:=ih (i+1) f (n+1) (gX gy (ck c) (v9 c.2.2.2) R) (dK (ck c) (v9 c.2.2.2) S) hr' (by omega) (by omega) (hR.add hv ⟨hcc.n1,hcc.n2⟩) (by omega)
  refine⟨R', ?_, ?_⟩
  ·rw[aaX,show n+(r.length+1)=n+1+r.length by omega];exact g1
  ·rw[bO]
   generalize hag:(fun y=>iter f y mR)=again
   unfold mR
   dsimp only
   have hcall:=hR.call (by omega) (ck c) hv
   rw[aC (by omega),bD,hx,ace,show qy c.2.2.2=_ from Hw hcc.d,ace]
   dsimp only
   rw[show ((c.1,c.2.1,[],0,0):ai)=((ck c).1,(ck c).2,[],0,0) from rfl,hcall,ace]
   dsimp only
   rw[aA (n:=(i:Int)+1) (by omega) (by omega), ← hag,show (i:Int)+1=((i+1:Nat):Int) by omega]
   exact g2
def Vl (l:List ah) (S:List (Tw×Int)) (L:List Nat):List (Tw×Int):=L.foldl (fun S i=>w6 S ((l[i]?).map (·.2.2.2)).get!) S
theorem HM (B:Nat→Bool) (l:List ah):∀ n,Vl l [] (mV B n)=w8 B l n
 | 0=>rfl
 | n+1=>by
  rw[OQ]
  simp only[w8]
  cases hb:B n with
  | false=>rw[acE (by simp),acE (by simp)];exact HM B l n
  | true=>
   rw[acF rfl,acF rfl, ← HM B l n]
   unfold Vl
   rw[List.foldl_append];rfl
theorem Ze {l:List ah} (hl:l.length≤500) (hp:Um l) (L:List Nat) (hL:∀ x∈L,x<l.length) (hLl:L.length≤500) (a1 a2:List UInt8) (a3:Int):
 ∀ (r:List Nat) (i f n:Nat) (R S:List (Tw×Int)),L.drop i=r→i≤L.length→r.length<f→RS n R S→n+100*r.length≤1000000→
  ∃ R',RS (n+100*r.length) R' (Vl l S r)∧iter (X:=sQ) (β:=sP) f (cI L,(L.length:Int),(i:Int),a1,a2,a3,l,R.map kC,R.map vN,()) oE=some (Sum.inr (R'.map kC,R'.map vN,())):=by
 intro r
 induction r with
 | nil=>
  intro i f n R S hdr hi hf hR hn
  have:i=L.length:=by
   have:=congrArg List.length hdr
   simp at this;omega
  obtain⟨f,rfl⟩:∃ m,f=m+1:=⟨f - 1,by omega⟩
  refine⟨R,hR, ?_⟩
  rw[bO]
  unfold oE
  dsimp only
  rw[aH (by omega)]
 | cons x r ih=>
  intro i f n R S hdr hi hf hR hn
  have hx:L[i]? =some x:=by
   have:=congrArg (·[0]?) hdr
   simpa [aaI] using this
  have hr':L.drop (i+1)=r:=by
   have:=congrArg List.tail hdr
   simpa [abz] using this
  have hlt:=(aaL.1 hx).1
  have hxl:=hL x (abf hx)
  have hy:l[x]? =some l[x]:=aaJ hxl
  have hpi:=hp l[x] (aaV hxl)
  obtain⟨f,rfl⟩:∃ m,f=m+1:=⟨f - 1,by simp at hf;omega⟩
  simp only[aaX] at hf hn
  obtain⟨R1,k1,k2⟩:=XO (cI L) (L.length:Int) (i:Int) a1 a2 a3 l l[x].2.2.2 hpi.1 hpi.2 l[x].2.2.2 0
   (List.length (cI L)+(Int.natAbs (L.length:Int)+(Int.natAbs (i:Int)+(List.length l[x].2.2.2+(Int.natAbs ((List.length l[x].2.2.2:Int))+(Int.natAbs (0:Int)+(List.length a1+(List.length a2+(Int.natAbs a3+(List.length l+(List.length (R.map kC)+(List.length (R.map vN)+2)))))))))))) n R S rfl (acd _) (by omega) hR (by have:=hpi.1;omega)
  rw[show ((0:Nat):Int)=0 from rfl] at k2
  obtain⟨R',g1,g2⟩:=ih (i+1) f (n+100) R1 (w6 S l[x].2.2.2) hr' (by omega) (by omega) (k1.mono (by have:=hpi.1;omega)) (by omega)
  refine⟨R', ?_, ?_⟩
  ·rw[aaX,show n+100*(r.length+1)=n+100+100*r.length by omega]
   unfold Vl at g1 ⊢
   rw[List.foldl_cons,hy]
   exact g1
  ·rw[bO]
   generalize hag:(fun y=>iter f y oE)=again
   unfold oE
   dsimp only
   have hxi:(cI L)[i]? =some (x:Int):=by rw[show (cI L)[i]? =_ from by unfold cI;rw[aaM],hx];rfl
   rw[aC (by omega),bD,hxi,ace,bD,hy,ace]
   rw[k2,aV]
   dsimp only
   rw[aA (n:=(i:Int)+1) (by omega) (by omega), ← hag,show (i:Int)+1=((i+1:Nat):Int) by omega]
   exact g2
theorem PI (a:aS) (hf:FV a) (t:List UInt8):zU a t=some ((C0 a t).1,(C0 a t).2,()):=by
 unfold zU C0
 rw[yw a hf,ace]
 dsimp only
 by_cases h:eH a=0
 rotate_left
 ·rw[acF h,show (eH a != 0)=true by simpa using h,acr]
 rw[acE (by simpa using h),show (eH a != 0)=false by simpa using h,acq]
 have hok:=p8 h
 have hl:=hok.len
 have hd:(bif !(t==[]) then Option.bind (gh a.2.2.2 t) fun r2=>some (decide (r2.1<0),()) else some (false,()))=some (!decide (t=[]∨(dh (fun x:ah=>x.1) t a.2.2.2).isSome=true),()):=by
  by_cases h0:t=[]
  ·rw[show (t==[])=true by simpa using h0,acw (.inl h0)];rfl
  ·rw[show (t==[])=false by simpa using h0,ZW,acr,lM _ t (by omega),ace]
   cases hT:dh (fun x:ah=>x.1) t a.2.2.2 with
   | none=>
    dsimp only
    rw[acw (show ixI none<0 by show (-1:Int)<0;decide),acu (by simp[h0])];rfl
   | some T=>
    dsimp only
    rw[acu (show ¬ ixI (some T)<0 by show ¬ (T:Int)<0;omega),acw (by simp)];rfl
 rw[hd,ace]
 dsimp only
 by_cases ht:t=[]∨(dh (fun x:ah=>x.1) t a.2.2.2).isSome=true
 rotate_left
 ·rw[acE ht,acu ht,ZW,acr]
 rw[acF ht,acw ht,ZX,acq]
 have hin:nQ a.2.2.2 t=some (cI (mV (p9 a.2.2.2 t) a.2.2.2.length),()):=by
  by_cases h0:t=[]
  ·subst h0
   rw[NM _ hl hok.n1 hok.nl]
   rfl
  ·cases hT:dh (fun x:ah=>x.1) t a.2.2.2 with
   | none=>rw[hT] at ht;simp[h0] at ht
   | some T=>
    rw[PJ _ hl hok.n1 hok.nl t h0 T hT]
    have e:p9 a.2.2.2 t=fun i=>decide (T∈i::eL a.2.2.2 i):=by
     funext i
     unfold p9
     rw[acE h0,hT]
    rw[e];rfl
 rw[hin,ace]
 dsimp only
 have hsl:=Se (p9 a.2.2.2 t) a.2.2.2.length
 obtain⟨R',g1,g2⟩:=Ze hl (DC h) (mV (p9 a.2.2.2 t) a.2.2.2.length) (fun x hx=>Yg hx) (by omega) a.1 a.2.1 a.2.2.1 (mV (p9 a.2.2.2 t) a.2.2.2.length) 0
  (List.length (cI (mV (p9 a.2.2.2 t) a.2.2.2.length))+(Int.natAbs ((List.length (cI (mV (p9 a.2.2.2 t) a.2.2.2.length)):Int))+(Int.natAbs (0:Int)+(a.1.length+(a.2.1.length+(a.2.2.1.natAbs+(a.2.2.2.length+(List.length ([]:List ai)+(List.length ([]:List aa)+2))))))))) 0 [] [] rfl (acd _) (by rw[fH];omega) RS.nil (by omega)
 rw[show ((0:Nat):Int)=0 from rfl,aa7,aa7,show (((mV (p9 a.2.2.2 t) a.2.2.2.length).length:Nat):Int)=((cI (mV (p9 a.2.2.2 t) a.2.2.2.length)).length:Int) by rw[fH]] at g2
 rw[g2,aV]
 dsimp only
 have hR:RS 50000 R' (Xv a.2.2.2 t):=by
  rw[HM] at g1
  exact g1.mono (by omega)
 obtain⟨q,hq⟩:=Sh hR.same hR.ok.nd (by have:=hR.len;omega) (hR.le (by omega))
 rw[hq,ace]
theorem X5 (art:List UInt8) (q1 q2:Int) (l:List ah) (cs:List ai) (hcl:cs.length≤100) (hc:∀ c∈cs,CoL c):
 ∀ (r:List ai) (i f n:Nat) (R S:List (Tw×Int)),cs.drop i=r→i≤cs.length→r.length<f→RS n R S→n+r.length≤1000000→
  ∃ R',RS (n+r.length) R' (tY art S r)∧iter (X:=vh) (β:=vf) f (art,l,q1,q2,cs,(cs.length:Int),(i:Int),R.map kC,R.map vN,()) jM=some (Sum.inr (art,l,q1,q2,R'.map kC,R'.map vN,())):=by
 intro r
 induction r with
 | nil=>
  intro i f n R S hdr hi hf hR hn
  have:i=cs.length:=by
   have:=congrArg List.length hdr
   simp at this;omega
  obtain⟨f,rfl⟩:∃ m,f=m+1:=⟨f - 1,by omega⟩
  refine⟨R,hR, ?_⟩
  rw[bO]
  unfold jM
  dsimp only
  rw[aH (by omega)]
 | cons c r ih=>
  intro i f n R S hdr hi hf hR hn
  have hx:cs[i]? =some c:=by
   have:=congrArg (·[0]?) hdr
   simpa [aaI] using this
  have hr':cs.drop (i+1)=r:=by
   have:=congrArg List.tail hdr
   simpa [abz] using this
  have hlt:=(aaL.1 hx).1
  have hcc:=hc c (abf hx)
  obtain⟨f,rfl⟩:∃ m,f=m+1:=⟨f - 1,by simp at hf;omega⟩
  simp only[aaX] at hf hn
  have hv:=Io hcc.1.d
  have hsum:tY art S (c::r)=tY art (if (c.1==art)=true then dK (lk c) (v9 c.2.2.2) S else S) r:=rfl
  rw[hsum]
  cases hb:(c.1==art) with
  | true=>
   rw[acF rfl]
   obtain⟨R',g1,g2⟩:=ih (i+1) f (n+1) (gX gy (lk c) (v9 c.2.2.2) R) (dK (lk c) (v9 c.2.2.2) S) hr' (by omega) (by omega) (hR.add hv ⟨hcc.2,hcc.1.n2⟩) (by omega)
   refine⟨R', ?_, ?_⟩
   ·rw[aaX,show n+(r.length+1)=n+1+r.length by omega];exact g1
   ·rw[bO]
    generalize hag:(fun y=>iter f y jM)=again
    unfold jM
    dsimp only
    have hcall:=hR.call (by omega) (lk c) hv
    rw[aC (by omega),bD,hx,ace,hb,acr,show qy c.2.2.2=_ from Hw hcc.1.d,ace]
    dsimp only
    rw[show ((c.2.2.1,c.2.1,[],0,0):ai)=((lk c).1,(lk c).2,[],0,0) from rfl,hcall,ace]
    dsimp only
    rw[aA (n:=(i:Int)+1) (by omega) (by omega), ← hag,show (i:Int)+1=((i+1:Nat):Int) by omega]
    exact g2
  | false=>
   rw[acE (by simp)]
   obtain⟨R',g1,g2⟩:=ih (i+1) f (n+1) R S hr' (by omega) (by omega) (hR.mono (by omega)) (by omega)
   refine⟨R', ?_, ?_⟩
   ·rw[aaX,show n+(r.length+1)=n+1+r.length by omega];exact g1
   ·rw[bO]
    generalize hag:(fun y=>iter f y jM)=again
    unfold jM
    dsimp only
    rw[aC (by omega),bD,hx,ace,hb,acq,aA (n:=(i:Int)+1) (by omega) (by omega), ← hag,show (i:Int)+1=((i+1:Nat):Int) by omega]
    exact g2
theorem YN {l:List ah} (hl:l.length≤500) (hp:PcL l) (art:List UInt8):
 ∀ (r:List ah) (i f:Nat) (R:List (Tw×Int)),l.drop i=r→i≤l.length→r.length<f→RS (100*i) R (fm art l i)→
  ∃ R',RS 50000 R' (fm art l l.length)∧iter (X:=xD) (β:=xC) f (art,l,(l.length:Int),(i:Int),R.map kC,R.map vN,()) sk=some (Sum.inr (R'.map kC,R'.map vN,())):=by
 intro r
 induction r with
 | nil=>
  intro i f R hdr hi hf hR
  have:i=l.length:=by
   have:=congrArg List.length hdr
   simp at this;omega
  obtain⟨f,rfl⟩:∃ m,f=m+1:=⟨f - 1,by omega⟩
  subst this
  refine⟨R,hR.mono (by omega), ?_⟩
  rw[bO]
  unfold sk
  dsimp only
  rw[aH (by omega)]
 | cons x r ih=>
  intro i f R hdr hi hf hR
  have hx:l[i]? =some x:=by
   have:=congrArg (·[0]?) hdr
   simpa [aaI] using this
  have hr':l.drop (i+1)=r:=by
   have:=congrArg List.tail hdr
   simpa [abz] using this
  have hlt:=(aaL.1 hx).1
  have hpi:=hp x (abf hx)
  obtain⟨f,rfl⟩:∃ m,f=m+1:=⟨f - 1,by simp at hf;omega⟩
  simp only[aaX] at hf
  obtain⟨R1,k1,k2⟩:=X5 art (l.length:Int) (i:Int) l x.2.2.2 hpi.1 hpi.2 x.2.2.2 0
   (List.length art+(List.length l+(Int.natAbs (l.length:Int)+(Int.natAbs (i:Int)+(x.2.2.2.length+(Int.natAbs ((x.2.2.2.length:Int))+(Int.natAbs (0:Int)+(List.length (R.map kC)+(List.length (R.map vN)+2))))))))) (100*i) R _ rfl (acd _) (by omega) hR (by have:=hpi.1;omega)
  rw[show ((0:Nat):Int)=0 from rfl] at k2
  have hs:fm art l (i+1)=tY art (fm art l i) x.2.2.2:=by
   simp only[fm]
   rw[hx];rfl
  obtain⟨R',g1,g2⟩:=ih (i+1) f R1 hr' (by omega) (by omega) (by rw[hs];exact k1.mono (by have:=hpi.1;omega))
  refine⟨R',g1, ?_⟩
  rw[bO]
  generalize hag:(fun y=>iter f y sk)=again
  unfold sk
  dsimp only
  rw[aC (by omega),bD,hx,ace,k2,aV]
  dsimp only
  rw[aA (n:=(i:Int)+1) (by omega) (by omega), ← hag,show (i:Int)+1=((i+1:Nat):Int) by omega]
  exact g2
theorem YL {R:List (Tw×Int)} (hl:R.length≤1000000) (hb:∀ p∈R,Le 60 p.2) (Q:List ai):
 ∀ (r:List (Tw×Int)) (i f:Nat) (acc:List ax),R.drop i=r→i≤R.length→r.length<f→acc.length≤i→
  iter (X:=vi) (β:=vg) f (acc,R.map kC,(R.length:Int),(i:Int),Q,R.map vN,()) qw=
   some (if r.all (fun p=>okD p.2)=true then Sum.inr (acc++r.map fun p=>(p.1.1,p.1.2,tc p.2),()) else Sum.inl ([],1,())):=by
 have Ke:maxLen=9223372036854775807:=rfl
 intro r
 induction r with
 | nil=>
  intro i f acc hdr hi hf ha
  have:i=R.length:=by
   have:=congrArg List.length hdr
   simp at this;omega
  obtain⟨f,rfl⟩:∃ m,f=m+1:=⟨f - 1,by omega⟩
  rw[bO]
  unfold qw
  dsimp only
  rw[aH (by omega)]
  simp
 | cons p r ih=>
  intro i f acc hdr hi hf ha
  have hx:R[i]? =some p:=by
   have:=congrArg (·[0]?) hdr
   simpa [aaI] using this
  have hr':R.drop (i+1)=r:=by
   have:=congrArg List.tail hdr
   simpa [abz] using this
  have hlt:=(aaL.1 hx).1
  have hpb:=hb p (abf hx)
  obtain⟨f,rfl⟩:∃ m,f=m+1:=⟨f - 1,by simp at hf;omega⟩
  simp only[aaX] at hf
  rw[bO]
  generalize hag:(fun y=>iter f y qw)=again
  unfold qw
  dsimp only
  rw[aC (by omega),bD,aaM,hx]
  dsimp only[Option.map_some]
  rw[ace,aY (by rw[ZN,aaZ];exact⟨acw (by omega),acw (by omega)⟩),aaf,aaM,hx]
  dsimp only[Option.map_some]
  rw[ace,show vN p=N p.2 from rfl,Jr _ (hpb.mono (by omega)),ace,aag]
  by_cases hok:(few 9 p.2).1.natAbs≤1000000000000000
  ·rw[acF hok,show okD p.2=true from acw hok,Z0]
   dsimp only
   rw[show ((0:Int) != 0)=false from rfl,acq,aA (n:=(i:Int)+1) (by omega) (by omega),show (i:Int)+1=((i+1:Nat):Int) by omega,aY (by rw[ZN];exact⟨acw (by omega),acw (by omega)⟩), ← hag]
   refine (ih (i+1) f _ hr' (by omega) (by omega) (by simp;omega)).trans ?_
   rw[aa5,aak]
   rfl
  ·rw[acE hok,show okD p.2=false from acu hok,Bool.false_and,acE (by simp)]
   rfl
theorem Tv (a:aS) (hf:FV a) (art:List UInt8):EN a art=some ((CD a art).1,(CD a art).2,()):=by
 unfold EN CD
 rw[yw a hf,ace]
 dsimp only
 by_cases h:eH a=0
 rotate_left
 ·rw[acF h,show (eH a != 0)=true by simpa using h,acr]
 rw[acE (by simpa using h),show (eH a != 0)=false by simpa using h,acq,AW,ace]
 dsimp only
 cases hn:eZ art with
 | false=>rw[ZW,acr,acE (by simp)]
 | true=>
  rw[ZX,acq,acF rfl]
  have hok:=p8 h
  have hl:=hok.len
  obtain⟨R',g1,g2⟩:=YN hl (L3 h) art a.2.2.2 0 (List.length art+(a.2.2.2.length+(Int.natAbs ((a.2.2.2.length:Int))+(Int.natAbs (0:Int)+(List.length ([]:List ai)+(List.length ([]:List aa)+2)))))) [] rfl (acd _) (by omega) RS.nil
  rw[show ((0:Nat):Int)=0 from rfl,aa7,aa7] at g2
  rw[g2,aV]
  dsimp only
  have h19:=YL (by have:=g1.len;omega) (g1.le (by omega)) (R'.map kC) R' 0 (List.length ([]:List ax)+(List.length (R'.map kC)+(Int.natAbs ((List.length (R'.map kC):Int))+(Int.natAbs (0:Int)+(List.length (R'.map kC)+(List.length (R'.map vN)+2)))))) [] rfl (acd _) (by rw[aaZ];omega) (abP _)
  rw[show ((0:Nat):Int)=0 from rfl,show ((R'.length:Nat):Int)=((R'.map kC).length:Int) by rw[aaZ]] at h19
  rw[h19]
  unfold UR
  rw[← g1.same.ks g1.ok.nd,XG g1.same R' fun p hp=>hp]
  by_cases ha:R'.all (fun p=>okD p.2)=true
  ·rw[acF ha,acF ha];rfl
  ·rw[acE ha,acE ha];rfl
theorem SY (l:List ax) (hl:l.length≤9000000000000000000):gU l l=some (true,()):=by
 unfold gU
 rw[show (((l.length:Int)) != ((l.length:Int)))=false by simp,acq]
 have loop:∀ f,l.length<f→iter (X:=dU) (β:=fN) f (l,l,(l.length:Int),0,()) fM=some (Sum.inr ()):=by
  intro f hf
  refine bI (Inv:=fun i X=>X=((l,l,(l.length:Int),(i:Int),()):dU)) l.length (fun r=>r=some (Sum.inr ())) ?_ ?_ f 0 _ rfl (by omega) (by omega)
  ·rintro i X again hi rfl hag
   unfold fM
   dsimp only
   have hy:l[i]? =some l[i]:=aaJ hi
   rw[aC (by omega),bD,hy,ace,ace]
   simp only[aco,Bool.and_self,ZX,acq]
   rw[aA (by omega) (by omega)]
   exact hag _ rfl
  ·rintro X again rfl
   unfold fM
   dsimp only
   rw[aH (by omega)]
 rw[loop _ (by omega),aV]
theorem SZ (l:List ax) (hl:l.length≤9000000000000000000):gV l l=some (true,()):=by
 unfold gV
 rw[show (((l.length:Int)) != ((l.length:Int)))=false by simp,acq]
 have loop:∀ f,l.length<f→iter (X:=dV) (β:=fP) f (l,l,(l.length:Int),0,()) fO=some (Sum.inr ()):=by
  intro f hf
  refine bI (Inv:=fun i X=>X=((l,l,(l.length:Int),(i:Int),()):dV)) l.length (fun r=>r=some (Sum.inr ())) ?_ ?_ f 0 _ rfl (by omega) (by omega)
  ·rintro i X again hi rfl hag
   unfold fO
   dsimp only
   have hy:l[i]? =some l[i]:=aaJ hi
   rw[aC (by omega),bD,hy,ace,ace]
   simp only[aco,Bool.and_self,ZX,acq]
   rw[aA (by omega) (by omega)]
   exact hag _ rfl
  ·rintro X again rfl
   unfold fO
   dsimp only
   rw[aH (by omega)]
 rw[loop _ (by omega),aV]
theorem Q7 (S:List (Tw×Int)):∀ (ks:List Tw) (l:List ax),yP S ks=some l→l.length≤ks.length
 | [],l,h=>by cases h;exact abP _
 | k::r,l,h=>by
  unfold yP at h
  split at h
  ·obtain⟨l',h1,h2⟩:=Option.map_eq_some_iff.1 h
   have:=Q7 S r l' h1
   rw[← h2]
   split
   ·simp;omega
   ·simp;omega
  ·cases h
theorem RA (S:List (Tw×Int)):∀ (ks:List Tw) (l:List ax),AB S ks=some l→l.length≤ks.length
 | [],l,h=>by cases h;exact abP _
 | k::r,l,h=>by
  unfold AB at h
  split at h
  ·obtain⟨l',h1,h2⟩:=Option.map_eq_some_iff.1 h
   have:=RA S r l' h1
   rw[← h2]
   simp;omega
  ·cases h
theorem Xu (a:aS) (t:List UInt8):(C0 a t).1.length≤50000:=by
 unfold C0
 split
 ·exact acd _
 rename_i h
 split
 ·unfold GP
  split
  ·rename_i l hl
   have h1:=Q7 _ _ l hl
   have hS:=Ik (B:=p9 a.2.2.2 t) (DC (show eH a=0 by simpa using h)) a.2.2.2.length (abP _)
   have h2:=hS.len
   have h3:=(p8 (show eH a=0 by simpa using h)).len
   rw[(tF _).length_eq,aaZ] at h1
   unfold Xv at h1
   dsimp only
   omega
  ·exact acd _
 ·exact acd _
theorem Xf (a:aS) (t:List UInt8):(CD a t).1.length≤50000:=by
 unfold CD
 split
 ·exact acd _
 rename_i h
 split
 ·unfold UR
  split
  ·rename_i l hl
   have h1:=RA _ _ l hl
   have hS:=E2 (L3 (show eH a=0 by simpa using h)) t a.2.2.2.length (abP _)
   have h2:=hS.len
   have h3:=(p8 (show eH a=0 by simpa using h)).len
   rw[(tF _).length_eq,aaZ] at h1
   dsimp only
   omega
  ·exact acd _
 ·exact acd _
theorem Rs:G6=some (true,()):=by kernel_rfl
theorem law_ParcelSumsMatchSpec (a:aS) (t art:List UInt8) (hf:FV a):gA a t art=some (true,()):=by
 unfold gA
 rw[Kq a hf t,PI a hf t,ace,ace]
 dsimp only
 have h1:=Xu a t
 have h2:=Xf a art
 rw[show ((C0 a t).2 != (C0 a t).2)=false by simp,acq,SY _ (by omega),ace]
 dsimp only
 rw[ZX,acq,NJ a hf art,Tv a hf art,ace,ace]
 dsimp only
 rw[show ((CD a art).2==(CD a art).2)=true by simp,acr,SZ _ (by omega),ace]
 dsimp only
 rw[acr,Rs]
 rfl
end Go.Md
