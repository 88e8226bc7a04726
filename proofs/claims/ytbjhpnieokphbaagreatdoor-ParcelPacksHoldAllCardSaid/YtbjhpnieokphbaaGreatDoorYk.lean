/-
  Plain facts: what is in parcels; the plain law is true of all data. No condition.
-/
import Derived.Test.YtbjhpnieokphbaaGreatDoorYo
import Derived.Test.YtbjhpnieokphbaaGreatDoorYu
import Derived.Test.YtbjhpnieokphbaaGreatDoorYn
set_option linter.all false
set_option linter.all false
set_option maxRecDepth 20000
namespace Go.Md
open Go.Dn
abbrev Tw:Type:=List UInt8×List UInt8
theorem Au (a b:Tw):Ty.beq aB a b=decide (a=b):=by
 show (FW a.1 b.1&&FW a.2 b.2)=_
 by_cases h1:a.1=b.1
 ·by_cases h2:a.2=b.2
  ·rw[WH (Prod.ext h1 h2)]
   simp[FW,h1,h2]
  ·rw[WG (fun e=>h2 (by rw[e]))]
   simp[FW,h2]
 ·rw[WG (fun e=>h1 (by rw[e]))]
  simp[FW,h1]
def toW (p:Tw×Int):Tw×au:=(p.1,W p.2)
def jj (k:Tw):List (Tw×Int)→Option Int
 | []=>none
 | p::r=>if k=p.1 then some p.2 else jj k r
def fm (k:Tw) (z:Int):List (Tw×Int)→List (Tw×Int)
 | []=>[(k,z)]
 | p::r=>if k=p.1 then (k,p.2+z)::r else p::fm k z r
theorem Qr (k:Tw):∀ S:List (Tw×Int),bQ (k:=aB) (v:=aH) (S.map toW) k=(jj k S).map W
 | []=>rfl
 | p::r=>by
  refine (@rX aB aH (toW p) (r.map toW) k).trans ?_
  have ih:=Qr k r
  simp only[jj]
  by_cases h:k=p.1
  ·rw[WQ h,show Ty.beq aB k (toW p).1=true from (Au _ _).trans (WH h)];rfl
  ·rw[WO h,show Ty.beq aB k (toW p).1=false from (Au _ _).trans (WG h),WC];exact ih
theorem JX (k:Tw) (z:Int):∀ (S:List (Tw×Int)) (b:Int),jj k S=some b→fJ (k:=aB) (v:=aH) (S.map toW) k (W (b+z))=(fm k z S).map toW
 | p::r,b,h=>by
  refine (@Df aB aH (toW p) (r.map toW) k _).trans ?_
  simp only[jj] at h
  simp only[fm]
  by_cases e:k=p.1
  ·rw[WQ e] at h
   cases h
   rw[WQ e,show Ty.beq aB k (toW p).1=true from (Au _ _).trans (WH e)];rfl
  ·rw[WO e] at h
   rw[WO e,show Ty.beq aB k (toW p).1=false from (Au _ _).trans (WG e),WC,JX k z r b h]
   rfl
theorem JW (k:Tw) (z:Int):∀ (S:List (Tw×Int)),jj k S=none→fJ (k:=aB) (v:=aH) (S.map toW) k (W z)=(fm k z S).map toW
 | [],_=>rfl
 | p::r,h=>by
  refine (@Df aB aH (toW p) (r.map toW) k _).trans ?_
  simp only[jj] at h
  simp only[fm]
  by_cases e:k=p.1
  ·rw[WQ e] at h;cases h
  ·rw[WO e] at h
   rw[WO e,show Ty.beq aB k (toW p).1=false from (Au _ _).trans (WG e),WC,JW k z r h]
   rfl
theorem Qq (k:Tw) (S:List (Tw×Int)) (M:List (Tw×au)) (hM:M=S.map toW):bQ (k:=aB) (v:=aH) M k=(jj k S).map W:=by
 subst hM;exact Qr k S
theorem OV (k:Tw) (z:Int) (S:List (Tw×Int)) (M:List (Tw×au)) (hM:M=S.map toW) (b:Int) (h:jj k S=some b):fJ (k:=aB) (v:=aH) M k (W (b+z))=(fm k z S).map toW:=by
 subst hM;exact JX k z S b h
theorem OU (k:Tw) (z:Int) (S:List (Tw×Int)) (M:List (Tw×au)) (hM:M=S.map toW) (h:jj k S=none):fJ (k:=aB) (v:=aH) M k (W z)=(fm k z S).map toW:=by
 subst hM;exact JW k z S h
def M24:Nat:=10 ^ 24
def Sm (n:Nat) (S:List (Tw×Int)):Prop:=∀ p∈S,p.2.natAbs≤n*M24
theorem Sm.add {n:Nat} {S:List (Tw×Int)} (h:Sm n S) {k:Tw} {z:Int} (hz:z.natAbs≤10 ^ 24):Sm (n+1) (fm k z S):=by
 have hz:z.natAbs≤M24:=hz
 have e:(n+1)*M24=n*M24+M24:=by rw[VU,Wk]
 induction S with
 | nil=>
  intro p hp
  rcases VE.1 hp with rfl
  show z.natAbs≤_
  rw[e];omega
 | cons q r ih=>
  have h1:=h q Vw
  intro p hp
  simp only[fm] at hp
  split at hp
  ·rcases Vu.1 hp with rfl | hp
   ·show (q.2+z).natAbs≤_
    rw[e];omega
   ·have:=h p (Vv _ hp)
    rw[e];omega
  ·rcases Vu.1 hp with rfl | hp
   ·rw[e];omega
   ·exact ih (fun x hx=>h x (Vv _ hx)) p hp
theorem Dd {k:Tw}:∀ {S:List (Tw×Int)} {b:Int},jj k S=some b→(k,b)∈S
 | p::r,b,h=>by
  simp only[jj] at h
  split at h
  ·rename_i e
   cases h
   rw[e];exact Vw
  ·exact Vv _ (Dd h)
theorem Sm.le {n:Nat} {S:List (Tw×Int)} (h:Sm n S) (hn:n≤1000000) {p:Tw×Int} (hp:p∈S):p.2.natAbs≤10 ^ 30:=by
 have h1:=h p hp
 have h2:=Wi M24 hn
 exact V3 h1 (V3 h2 (by unfold M24;decide))
theorem Og {d:ai} (h:cA d):(v9 d).natAbs≤10 ^ 24:=Pu h
theorem Oc {d:ai} (h:cA d):eD d 9=some (W (v9 d),()):=by
 have h1:=h.1;have h2:=h.2
 exact w8 d 9 (by omega) (by omega) (by omega) (by omega) (by omega)
theorem K6 {n:Nat} (h:n≤10 ^ 40):n<4294967296 ^ 99:=by
 refine V5 h ?_
 exact V6 (show 10 ^ 40<4294967296 ^ 5 by decide) (Wm (by decide) (by decide))
theorem ND {n:Nat} {S:List (Tw×Int)} (hS:Sm n S) (hn:n≤1000000) (k:Tw) {d:ai} (hd:cA d):gP (S.map toW) k d=some ((fm k (v9 d) S).map toW,()):=by
 have hv:=Og hd
 obtain⟨M,hM⟩:∃ M:List (Tw×au),M=S.map toW:=⟨_,rfl⟩
 rw[← hM]
 have hg:=Qq k S M hM
 have hs:=fun b h=>OV k (v9 d) S M hM b h
 have hs0:=OU k (v9 d) S M hM
 unfold gP
 rw[hg]
 cases h:jj k S with
 | none=>
  show (Option.bind (kR 0) fun r1=>Option.bind (eD d 9) fun r2=>Option.bind (gj r1.1 r2.1) fun r3=>some (fJ (k:=aB) (v:=aH) M k r3.1,()))=_
  rw[nK 0 (by omega) (by omega),Wq,Oc hd,Wq]
  dsimp only
  rw[wj 0 _ (K6 (by omega)) (K6 (by omega)),Wq]
  dsimp only
  rw[Int.zero_add,hs0 h]
  rfl
 | some b=>
  have hb:=hS.le hn (Dd h)
  show (Option.bind (eD d 9) fun r4=>Option.bind (gj (W b) r4.1) fun r5=>some (fJ (k:=aB) (v:=aH) M k r5.1,()))=_
  rw[Oc hd,Wq]
  dsimp only
  rw[wj b _ (K6 (by omega)) (K6 (by omega)),Wq]
  dsimp only
  rw[hs b h]
  rfl
theorem Ci (k:Tw) (z:Int):∀ S:List (Tw×Int),(∀ p,p∈fm k z S→p.1=k∨∃ q∈S,q.1=p.1)
 | [],p,hp=>by rcases VE.1 hp with rfl;exact .inl rfl
 | q::r,p,hp=>by
  simp only[fm] at hp
  split at hp
  ·rcases Vu.1 hp with rfl | hp
   ·exact .inl rfl
   ·exact .inr ⟨p,Vv _ hp,rfl⟩
  ·rcases Vu.1 hp with rfl | hp
   ·exact .inr ⟨p,Vw,rfl⟩
   ·rcases Ci k z r p hp with h | ⟨x,hx,h⟩
    ·exact .inl h
    ·exact .inr ⟨x,Vv _ hx,h⟩
theorem NI (k:Tw) (z:Int):∀ S:List (Tw×Int),(S.map (·.1)).Nodup→((fm k z S).map (·.1)).Nodup
 | [],_=>by simp[fm]
 | q::r,h=>by
  rw[Vr,VH] at h
  simp only[fm]
  split
  ·rename_i e
   rw[Vr,VH,e];exact h
  ·rename_i e
   rw[Vr,VH]
   refine⟨fun hm=> ?_,NI k z r h.2⟩
   obtain⟨p,hp,e1⟩:=Vz.1 hm
   rcases Ci k z r p hp with h1 | ⟨x,hx,h1⟩
   ·exact e (by rw[← h1,e1])
   ·exact h.1 (Vz.2 ⟨x,hx,h1.trans e1⟩)
theorem K9 (k:Tw) (z:Int):∀ S:List (Tw×Int),(fm k z S).length≤S.length+1
 | []=>by simp[fm]
 | q::r=>by
  have ih:=K9 k z r
  simp only[fm]
  split
  ·simp
  ·simp only[Vj];omega
structure rm (n:Nat) (S:List (Tw×Int)):Prop where
 sm:Sm n S
 nd:(S.map (·.1)).Nodup
 st:∀ p∈S,p.1.1.length≤1000∧p.1.2.length≤1000
 len:S.length≤n
theorem rm.nil:rm 0 []:=⟨fun _ h=>(by cases h),List.nodup_nil,fun _ h=>(by cases h),V2 _⟩
theorem rm.add {n:Nat} {S:List (Tw×Int)} (h:rm n S) {k:Tw} {z:Int} (hz:z.natAbs≤10 ^ 24) (hk:k.1.length≤1000∧k.2.length≤1000):rm (n+1) (fm k z S):=
 ⟨h.sm.add hz,NI k z S h.nd,fun p hp=>by
   rcases Ci k z S p hp with e | ⟨q,hq,e⟩
   ·rw[e];exact hk
   ·rw[← e];exact h.st q hq,V3 (K9 k z S) (Nat.succ_le_succ h.len)⟩
theorem NW {s:List UInt8} (h:dS s=true):s.length≤1000:=by
 apply Decidable.byContradiction
 intro hc
 unfold dS at h
 have e:dF s=some (false,()):=by
  unfold dF
  rw[aN (by omega),aG (by omega)]
 rw[e] at h
 cases h
structure Oh (c:aX):Prop where
 d:cA c.2.2.2
 n1:c.1.length≤1000
 n2:c.2.1.length≤1000
def Q3 (l:List aa):Prop:=∀ p∈l,p.2.2.2.length≤100∧∀ c∈p.2.2.2,Oh c
theorem Lt {l:List aX} (h:uZ l=0):∀ c∈l,Oh c:=by
 have hq:=(EM h).2
 unfold uZ at h
 split at h
 ·omega
 intro c hc
 have hd:=(hq c hc).dec
 obtain⟨i,hi⟩:=Vy.1 hc
 have:=iI h i c hi
 unfold DM at this
 split at this
 ·omega
 rename_i h1
 split at this
 ·omega
 rename_i h2
 exact⟨hd,NW (by simpa using h1),NW (by simpa using h2)⟩
theorem N9 {a:bg} (h:pT a=0):Q3 a.2.2.2:=by
 intro p hp
 refine⟨(Sh h p hp).n, ?_⟩
 unfold pT at h
 split at h
 ·omega
 split at h
 ·omega
 split at h
 ·omega
 split at h
 ·omega
 split at h
 ·omega
 have h3:dy (kU a.2.2.2) 0 a.2.2.2=0:=by omega
 obtain⟨i,hi⟩:=Vy.1 hp
 have:=iI h3 i p hi
 unfold kU at this
 split at this
 ·omega
 split at this
 ·omega
 split at this
 ·omega
 exact Lt this
def ck (c:aX):Tw:=(c.1,c.2.1)
def zA (S:List (Tw×Int)) (cs:List aX):List (Tw×Int):=cs.foldl (fun S c=>fm (ck c) (v9 c.2.2.2) S) S
theorem QY (S:List (Tw×Int)) (cs:List aX) (c:aX):zA S (cs++[c])=fm (ck c) (v9 c.2.2.2) (zA S cs):=by
 unfold zA;rw[List.foldl_append];rfl
theorem rm.RJ {n:Nat} {S:List (Tw×Int)} (h:rm n S):∀ cs:List aX,(∀ c∈cs,Oh c)→rm (n+cs.length) (zA S cs):=by
 intro cs
 induction cs generalizing n S with
 | nil=>intro _;exact h
 | cons c r ih=>
  intro hc
  have h1:=hc c Vw
  have:=ih (h.add (k:=ck c) (Og h1.d) ⟨h1.n1,h1.n2⟩) (fun x hx=>hc x (Vv _ hx))
  rw[Vj,show n+(r.length+1)=n+1+r.length by omega]
  exact this
def TL (cs:List aX):Int:=(cs.map fun c=>v9 c.2.2.2).sum
end Go.Md
set_option linter.all false
set_option maxRecDepth 20000
namespace Go.Md
open Go.Dn
theorem DC {a b:Tw}:fe a b<0↔Op.bytesLess a.1 b.1=true∨(a.1=b.1∧Op.bytesLess a.2 b.2=true):=by
 unfold fe
 by_cases h:Lib.compareBytes a.1 b.1=0
 ·rw[show (Lib.compareBytes a.1 b.1==0)=true by simpa using h,WD,tw]
  have e:=uY.1 h
  constructor
  ·intro h2;exact .inr ⟨e,h2⟩
  ·rintro (h2 | ⟨_,h2⟩)
   ·rw[e,dJ] at h2;cases h2
   ·exact h2
 ·rw[show (Lib.compareBytes a.1 b.1==0)=false by simpa using h,WC,tw]
  constructor
  ·exact .inl
  ·rintro (h2 | ⟨e,_⟩)
   ·exact h2
   ·exact absurd (uY.2 e) h
theorem Kh (a b:Tw):fe a b<0∨a=b∨fe b a<0:=by
 rw[DC,DC]
 rcases Ct a.1 b.1 with h | h | h
 ·exact .inl (.inl h)
 ·rcases Ct a.2 b.2 with g | g | g
  ·exact .inl (.inr ⟨h,g⟩)
  ·exact .inr (.inl (Prod.ext h g))
  ·exact .inr (.inr (.inr ⟨h.symm,g⟩))
 ·exact .inr (.inr (.inl h))
theorem Rj {n:Nat} {S:List (Tw×Int)} (h:rm n S) (hn:n≤1000000):wS fe (S.map toW)=true:=by
 have e:(S.map toW).map (·.1)=S.map (·.1):=by rw[Vs];rfl
 have h1:=h.len
 unfold wS
 rw[e]
 simp only[T9,WI,Vk,UG,Um]
 refine⟨by omega,fun p hp=> ?_,h.nd,fun x _ y _=> ?_⟩
 ·obtain⟨q,hq,rfl⟩:=Vz.1 hp
  have:=h.st q hq
  show q.1.1.length≤_∧q.1.2.length≤_
  omega
 ·rcases Kh x y with h | h | h
  ·exact .inl h
  ·exact .inr (.inr h)
  ·exact .inr (.inl h)
def ksS (S:List (Tw×Int)):List Tw:=(S.map (·.1)).mergeSort fun x y=> !decide (fe y x<0)
theorem SM (S:List (Tw×Int)):jT fe (S.map toW)=ksS S:=by
 have e:(S.map toW).map (·.1)=S.map (·.1):=by rw[Vs];rfl
 unfold jT ksS
 rw[e]
theorem L3 (S:List (Tw×Int)):(ksS S).Perm (S.map (·.1)):=VF _ _
def rI (S:List (Tw×Int)) (k:Tw):Int:=(jj k S).getD 0
theorem L7 {S:List (Tw×Int)} (hnd:(S.map (·.1)).Nodup) {p:Tw×Int} (hp:p∈S):jj p.1 S=some p.2:=by
 induction S with
 | nil=>cases hp
 | cons q r ih=>
  rw[Vr,VH] at hnd
  simp only[jj]
  rcases Vu.1 hp with rfl | hp
  ·rw[WQ rfl]
  ·rw[WO (fun e=>hnd.1 (Vz.2 ⟨p,hp,e⟩))]
   exact ih hnd.2 hp
def okD (z:Int):Bool:=decide ((few 9 z).1.natAbs≤1000000000000000)
def pV (S:List (Tw×Int)):List Tw→Option (List ah)
 | []=>some []
 | k::r=>if okD (rI S k)=true then (pV S r).map fun l=>if (few 9 (rI S k)).1=0 then l else (k.1,k.2,pQ (rI S k))::l else none
def Iw (S:List (Tw×Int)):List ah×Int:=match pV S (ksS S) with
 | some l=>(l,0)
 | none=>([],1)
theorem Sg {z:Int} (h:z.natAbs≤10 ^ 30):Le 42 z:=V3 h (by decide)
theorem SK {n:Nat} {S:List (Tw×Int)} (h:rm n S) (hn:n≤1000000) {M:List (Tw×au)} (hM:M=S.map toW) (ks:List Tw) (hks:ks.length≤1000000) (hsub:∀ k∈ks,∃ z,jj k S=some z):
 ∀ (r:List Tw) (i f:Nat) (acc:List ah),ks.drop i=r→i≤ks.length→r.length<f→acc.length≤i→
 iter (X:=ir) (β:=iq) f (acc,(ks.length:Int),(i:Int),ks,M,()) fG=
  some (match pV S r with | some l=>Sum.inr (acc++l,M,()) | none=>Sum.inl ([],1,M,())):=by
 have II:maxLen=9223372036854775807:=rfl
 intro r
 induction r with
 | nil=>
  intro i f acc hdr hi hf ha
  have:i=ks.length:=by
   have:=congrArg List.length hdr
   simp at this;omega
  subst this
  obtain⟨f,rfl⟩:∃ m,f=m+1:=⟨f - 1,by omega⟩
  rw[gy]
  unfold fG
  dsimp only
  rw[aN (by omega)]
  simp only[pV,List.append_nil]
 | cons k r ih=>
  intro i f acc hdr hi hf ha
  have hki:ks[i]? =some k:=by
   have:=congrArg (·[0]?) hdr
   simpa [U4] using this
  have hr':ks.drop (i+1)=r:=by
   have:=congrArg List.tail hdr
   simpa [List.tail_drop] using this
  have hlt:=(U7.1 hki).1
  obtain⟨z,hz⟩:=hsub k (VA hki)
  have hv:rI S k=z:=by unfold rI;rw[hz];rfl
  have hzb:=h.sm.le hn (Dd hz)
  obtain⟨f,rfl⟩:∃ m,f=m+1:=⟨f - 1,by simp at hf;omega⟩
  simp only[Vj] at hf
  have hg:Option.getD (α:=au) (bQ (k:=aB) (v:=aH) M k) (false,[])=W z:=by
   rw[Qq k S M hM,hz];rfl
  rw[gy]
  generalize hag:(fun y=>iter f y fG)=again
  unfold fG
  dsimp only
  rw[aG (by omega),bn (by simp only[T9,WI];omega),UD,hki,Wq,hg,I9 (Sg hzb),Wq]
  simp only[pV]
  rw[hv]
  by_cases hok:(few 9 z).1.natAbs≤1000000000000000
  ·rw[WQ hok,WQ (show okD z=true from WH hok)]
   dsimp only
   rw[show ((0:Int) != 0)=false from rfl,WC,ax (n:=(i:Int)+1) (by omega) (by omega), ← hag,show (i:Int)+1=((i+1:Nat):Int) by omega]
   have ht:(pQ z).1=(few 9 z).1:=rfl
   rw[ht]
   by_cases h0:(few 9 z).1=0
   ·rw[h0,show ((0:Int) != 0)=false from rfl,WC]
    refine (ih (i+1) f acc hr' (by omega) (by omega) (by omega)).trans ?_
    cases pV S r with
    | none=>rfl
    | some l=>rfl
   ·rw[show ((few 9 z).1 != 0)=true by simpa using h0,WD,bn (by rw[T9];exact⟨WH (by omega),WH (by omega)⟩)]
    refine (ih (i+1) f _ hr' (by omega) (by omega) (by simp;omega)).trans ?_
    cases pV S r with
    | none=>rfl
    | some l=>
     show some (Sum.inr ((acc++[(k.1,k.2,pQ z)])++l,M,()))=some (Sum.inr (acc++(if (few 9 z).1=0 then l else (k.1,k.2,pQ z)::l),M,()))
     rw[WO h0,UK]
     rfl
  ·rw[WO hok,WO (show ¬okD z=true from fun e=>hok (WV e))]
   rfl
theorem OH {n:Nat} {S:List (Tw×Int)} (h:rm n S) (hn:n≤1000000):pG (S.map toW)=some ((Iw S).1,(Iw S).2,S.map toW,()):=by
 have hk:=Rj h hn
 have he:=SM S
 have hp:=L3 S
 have hl:=h.len
 have hkl:(ksS S).length≤1000000:=by rw[hp.length_eq,Vk];omega
 obtain⟨M,hM⟩:∃ M:List (Tw×au),M=S.map toW:=⟨_,rfl⟩
 rw[← hM] at hk he ⊢
 unfold pG
 rw[bn hk,he]
 have loop:=SK h hn hM (ksS S) hkl (fun k hk=>by
  obtain⟨p,hp',rfl⟩:=Vz.1 (hp.mem_iff.1 hk)
  exact⟨_,L7 h.nd hp'⟩) (ksS S) 0
 have loop':∀ f,(ksS S).length<f→iter (X:=ir) (β:=iq) f ([],((ksS S).length:Int),0,ksS S,M,()) fG=_:=fun f hf=>loop f [] rfl (Wp _) hf (V2 _)
 rw[loop' _ (by rw[Int.natAbs_natCast];omega)]
 unfold Iw
 cases pV S (ksS S) with
 | none=>rfl
 | some l=>rfl
theorem RZ {n:Nat} {S:List (Tw×Int)} (hS:rm n S) (hn:n+100≤1000000) (t:List UInt8) (l l2:List aa) (c1 c2:Int) (a1 a2:List UInt8) (a3:Int) (cs:List aX) (hcs:cs.length≤100) (hc:∀ c∈cs,Oh c) (f:Nat) (hf:cs.length<f) {M:List (Tw×au)} (hM:M=S.map toW) {M':List (Tw×au)} (hM':M'=(zA S cs).map toW):
 iter (X:=ij) (β:=kW) f (t,l,c1,c2,cs,(cs.length:Int),0,a1,a2,a3,l2,M,()) kV=some (Sum.inr (t,l,c1,c2,a1,a2,a3,l2,M',())):=by
 refine bJ (Inv:=fun i X=>∃ M1,M1=(zA S (cs.take i)).map toW∧X=((t,l,c1,c2,cs,(cs.length:Int),(i:Int),a1,a2,a3,l2,M1,()):ij)) cs.length (fun r=>r=some (Sum.inr (t,l,c1,c2,a1,a2,a3,l2,M',()))) ?_ ?_ f 0 _ ⟨M,hM,rfl⟩ (by omega) (by omega)
 ·rintro i _ again hi ⟨M1,hM1,rfl⟩ ih
  have hy:cs[i]? =some cs[i]:=az hi
  have hm:cs[i]∈cs:=Vh hi
  have ets:cs.take (i+1)=cs.take i++[cs[i]]:=by rw[List.take_succ,hy];rfl
  have hSi:rm (n+(cs.take i).length) (zA S (cs.take i)):=hS.RJ _ fun c hc'=>hc c (VB hc')
  have hti:(cs.take i).length≤100:=by rw[Vp];omega
  have hadd:=ND hSi.sm (by omega) (ck cs[i]) (hc _ hm).d
  rw[← hM1] at hadd
  unfold kV
  dsimp only
  rw[aG (by omega),bF,hy,Wq]
  refine (show _→_ from fun h=>h) ?_
  rw[show ((cs[i].1,cs[i].2.1):bB)=ck cs[i] from rfl,hadd,Wq]
  dsimp only
  rw[ax (n:=(i:Int)+1) (by omega) (by omega)]
  exact ih _ ⟨_,by rw[ets,QY],rfl⟩
 ·rintro _ again ⟨M1,hM1,rfl⟩
  unfold kV
  dsimp only
  rw[aN (by omega)]
  rw[VP] at hM1
  rw[hM1, ← hM']
def qh (B:Nat→Bool) (l:List aa):Nat→List (Tw×Int)
 | 0=>[]
 | i+1=>if B i=true then zA (qh B l i) ((l[i]?).map (·.2.2.2)).get! else qh B l i
theorem Jj {B:Nat→Bool} {l:List aa} (hl:Q3 l):∀ i,i≤l.length→rm (100*i) (qh B l i)
 | 0,_=>rm.nil
 | i+1,hi=>by
  have ih:=Jj (B:=B) hl i (by omega)
  have hy:l[i]? =some l[i]:=az (by omega)
  have hp:=hl l[i] (Vh (by omega))
  simp only[qh]
  split
  ·rw[hy]
   have:=ih.RJ l[i].2.2.2 hp.2
   exact⟨fun p h=>V3 (this.sm p h) (Wi _ (by omega)),this.nd,this.st,by have:=this.len;show (zA _ l[i].2.2.2).length≤_;omega⟩
  ·exact⟨fun p h=>V3 (ih.sm p h) (Wi _ (by omega)),ih.nd,ih.st,by have:=ih.len;omega⟩
theorem SA {a:bg} (hl:a.2.2.2.length≤500) (hp:Q3 a.2.2.2) (t:List UInt8) (B:Nat→Bool) (hB:∀ i,i<a.2.2.2.length→gf a (i:Int) t=some (B i,())) {M':List (Tw×au)} (hM':M'=(qh B a.2.2.2 a.2.2.2.length).map toW) (f:Nat) (hf:a.2.2.2.length<f):
 iter (X:=iX) (β:=mu) f (t,a.2.2.2,(a.2.2.2.length:Int),0,a.1,a.2.1,a.2.2.1,a.2.2.2,[],()) mq=some (Sum.inr (M',())):=by
 refine bJ (Inv:=fun i X=>∃ M1,M1=(qh B a.2.2.2 i).map toW∧X=((t,a.2.2.2,(a.2.2.2.length:Int),(i:Int),a.1,a.2.1,a.2.2.1,a.2.2.2,M1,()):iX)) a.2.2.2.length (fun r=>r=some (Sum.inr (M',()))) ?_ ?_ f 0 _ ⟨[],rfl,rfl⟩ (by omega) (by omega)
 ·rintro i _ again hi ⟨M1,hM1,rfl⟩ ih
  have hy:a.2.2.2[i]? =some a.2.2.2[i]:=az hi
  have hpi:=hp a.2.2.2[i] (Vh hi)
  have hSi:=Jj (B:=B) hp i (by omega)
  have hBi:gf (a.1,a.2.1,a.2.2.1,a.2.2.2) (i:Int) t=some (B i,()):=hB i hi
  unfold mq
  dsimp only
  rw[aG (by omega),bF,hy,Wq,hBi,Wq]
  dsimp only
  cases hb:B i with
  | false=>
   rw[Uj,WD,ax (n:=(i:Int)+1) (by omega) (by omega)]
   refine ih _ ⟨M1, ?_,rfl⟩
   rw[hM1]
   simp only[qh]
   rw[hb];rfl
  | true=>
   rw[Uk,WC]
   obtain⟨M2,hM2⟩:∃ M2:List (Tw×au),M2=(zA (qh B a.2.2.2 i) a.2.2.2[i].2.2.2).map toW:=⟨_,rfl⟩
   have h2:=fun (f:Nat) (hf:a.2.2.2[i].2.2.2.length<f)=>RZ hSi (by omega) t a.2.2.2 a.2.2.2 (a.2.2.2.length:Int) (i:Int) a.1 a.2.1 a.2.2.1 a.2.2.2[i].2.2.2 hpi.1 hpi.2 f hf hM1 hM2
   rw[h2 _ (V4 _ (V4 _ (V4 _ (V4 _ (Nat.lt_add_of_pos_right (by with_reducible repeat (first | exact Nat.zero_lt_two | refine V4 _ ?_))))))),aU]
   dsimp only
   rw[ax (n:=(i:Int)+1) (by omega) (by omega)]
   refine ih _ ⟨M2, ?_,rfl⟩
   rw[hM2]
   simp only[qh]
   rw[hb,hy];rfl
 ·rintro _ again ⟨M1,hM1,rfl⟩
  unfold mq
  dsimp only
  rw[aN (by omega)]
  rw[hM1, ← hM']
theorem MN {a:bg} (hok:F3 a) {t:List UInt8} (ht:t=[]∨(ff (fun x:aa=>x.1) t a.2.2.2).isSome=true):∀ i,i<a.2.2.2.length→gf a (i:Int) t=some (HY a.2.2.2 t i,()):=fun i hi=>by
 by_cases h0:t=[]
 ·subst h0;rfl
 ·cases hT:ff (fun x:aa=>x.1) t a.2.2.2 with
  | none=>rw[hT] at ht;simp[h0] at ht
  | some T=>rw[Lf hok hi h0 hT];unfold HY;rw[WO h0,hT]
def Pt (l:List aa) (t:List UInt8):List (Tw×Int):=qh (HY l t) l l.length
noncomputable def MC (a:bg) (t:List UInt8):List ah×Int:=if pT a≠0 then ([],pT a) else if t=[]∨(ff (fun x:aa=>x.1) t a.2.2.2).isSome=true then Iw (Pt a.2.2.2 t) else ([],9)
theorem FP (a:bg) (hf:Oi a) (t:List UInt8):qO a t=some ((MC a t).1,(MC a t).2,()):=by
 unfold qO MC
 by_cases h:pT a=0
 rotate_left
 ·rw[WQ h]
  unfold iu
  rw[lE a hf,Wq]
  dsimp only
  rw[show (pT a != 0)=true by simpa using h,WD,Wq]
  dsimp only
  rw[show (pT a != 0)=true by simpa using h,WD]
 rw[WO (by simpa using h),G6 a hf h t,Wq]
 dsimp only
 have hok:=Jy h
 by_cases ht:t=[]∨(ff (fun x:aa=>x.1) t a.2.2.2).isSome=true
 rotate_left
 ·rw[WO ht,WO ht];rfl
 rw[WQ ht,WQ ht,show ((0:Int) != 0)=false from rfl,WC]
 obtain⟨M,hM⟩:∃ M:List (Tw×au),M=(qh (HY a.2.2.2 t) a.2.2.2 a.2.2.2.length).map toW:=⟨_,rfl⟩
 have h2:=SA hok.len (N9 h) t (HY a.2.2.2 t) (MN hok ht) hM
 rw[h2 _ (V4 _ (Nat.lt_add_of_pos_right (by with_reducible repeat (first | exact Nat.zero_lt_two | refine V4 _ ?_)))),aU]
 dsimp only
 have hS:=Jj (B:=HY a.2.2.2 t) (N9 h) a.2.2.2.length (V2 _)
 have hl:=hok.len
 rw[hM,OH hS (by omega),Wq]
 rfl
end Go.Md
set_option linter.all false
set_option maxRecDepth 20000
namespace Go.Md
open Go.Dn
theorem JN (S:List (Tw×Int)):∀ (ks:List Tw) (L:List ah),pV S ks=some L→My L=(ks.map (rI S)).sum∧(∀ x∈L,cA x.2.2)∧L.length≤ks.length
 | [],L,h=>by cases h;exact⟨rfl,fun x hx=>(by cases hx),V2 _⟩
 | k::r,L,h=>by
  simp only[pV] at h
  split at h
  ·rename_i hok
   cases hr:pV S r with
   | none=>rw[hr] at h;cases h
   | some l=>
    rw[hr] at h
    obtain⟨i1,i2,i3⟩:=JN S r l hr
    have hL:L=if (few 9 (rI S k)).1=0 then l else (k.1,k.2,pQ (rI S k))::l:=(Option.some.inj h).symm
    rw[hL,Vr,List.sum_cons]
    by_cases h0:(few 9 (rI S k)).1=0
    ·rw[WQ h0]
     have hz:rI S k=0:=by
      have:=(tF 9 (rI S k)).2.1
      rw[h0,Int.zero_mul] at this
      exact this.symm
     rw[hz]
     exact⟨by omega,i2,by simp only[Vj];omega⟩
    ·rw[WO h0]
     refine⟨?_,fun x hx=> ?_,by simp only[Vj];omega⟩
     ·show v9 (pQ (rI S k))+My l=_
      rw[Kf,i1]
     ·rcases Vu.1 hx with rfl | hx
      ·exact MB (WV hok)
      ·exact i2 x hx
  ·cases h
def cv (l:List aa) (i:Nat):Int:=TL (((l[i]?).map (·.2.2.2)).get!)
end Go.Md
set_option linter.all false
namespace Go.Md
open Go.Dn
def vN (l:List UInt8):Nat:=l.foldl (fun n b=>n*10+(b.toNat - 48)) 0
theorem PX (l:List UInt8) (b:UInt8):vN (l++[b])=vN l*10+(b.toNat - 48):=by
 unfold vN;rw[List.foldl_append];rfl
theorem AN:∀ (k:Nat) (l:List UInt8),vN (Lib.repeatL [48] k++l)=vN l
 | 0,l=>rfl
 | k+1,l=>by
  show vN (48::(Lib.repeatL [48] k++l))=vN l
  rw[← AN k l];rfl
theorem JK {d:Nat} (h:d<10):(UInt8.ofNat (48+d)).toNat=48+d:=by
 rw[UInt8.toNat_ofNat']
 omega
theorem CL:∀ (k u:Nat),u<10 ^ (k+1)→vN (Lib.decDigits u)=u∧0<(Lib.decDigits u).length∧(Lib.decDigits u).length≤k+1
 | k,u,h=>by
  rw[Lib.decDigits]
  by_cases h1:u<10
  ·rw[dif_pos h1]
   refine⟨?_,by simp,by simp⟩
   show 0*10+((UInt8.ofNat (48+u)).toNat - 48)=u
   rw[JK h1];omega
  ·rw[dif_neg h1]
   cases k with
   | zero=>rw[Wo,Nat.pow_one] at h;exact absurd h h1
   | succ k=>
    have hd:u / 10<10 ^ (k+1):=by
     rw[Wn] at h
     omega
    obtain⟨g1,g2,g3⟩:=CL k (u / 10) hd
    refine⟨?_,by simp,by simp;omega⟩
    rw[PX,g1,JK (by omega)]
    omega
theorem Rc (n:Nat) (h:n<100):Lib.decDigits n=Lx n:=by
 unfold Lx
 rw[Lib.decDigits]
 by_cases h1:n<10
 ·simp[h1]
 ·rw[dif_neg h1,Lib.decDigits,dif_pos (by omega),WO h1];rfl
theorem NQ {n:Nat} (h:n≤9223372036854775807):strconv_Itoa (n:Int)=some (Lib.decDigits n,()):=by
 unfold strconv_Itoa
 by_cases h1:n<100
 ·rw[show (decide (0≤(n:Int))&&decide ((n:Int)<100))=true by rw[T9];exact⟨WH (by omega),WH (by omega)⟩,WD,UD,Rc n h1]
 ·rw[show (decide (0≤(n:Int))&&decide ((n:Int)<100))=false by rw[WG (show ¬(n:Int)<100 by omega),Ua],WC,
   show (decide (-9223372036854775808≤(n:Int))&&decide ((n:Int)≤9223372036854775807))=true by rw[T9];exact⟨WH (by omega),WH (by omega)⟩,WD]
  unfold Lib.itoa
  rw[WO (by omega),UD]
theorem QJ (k:Nat) (h:k≤1000):strings_Repeat [48] (k:Int)=some (Lib.repeatL [48] k,()):=by
 unfold strings_Repeat
 rw[UD,show (decide (0≤(k:Int))&&(decide ((k:Int)≤9223372036854775807)&&decide ([(48:UInt8)].length*k≤140737488355328)))=true by
  rw[T9,T9]
  exact⟨WH (by omega),WH (by omega),WH (by simp;omega)⟩,WD]
theorem Qa (s:List UInt8) (hs:s.length≤9223372036854775807):gH 3 s=some (lbl s,()):=by
 have h:=wh s hs
 unfold lI nT jG at h
 rw[eU,Wq,Wq] at h
 dsimp only at h
 rw[show (!(!(decide ((3:Int)<1∨(5:Int)<3))))=false by decide,WC] at h
 cases hq:gH 3 s with
 | none=>rw[hq] at h;cases h
 | some r=>
  rw[hq,Wq,Wq] at h
  obtain⟨b,u⟩:=r
  exact h
theorem QK (k:Nat) (hk:k≤17):∀ n,k<n→iter (X:=lJ) (β:=pJ) n (1,(k:Int),0,()) pI=some (Sum.inr ((10:Int) ^ k,())):=by
 intro n hn
 refine bJ (Inv:=fun i X=>X=(((10:Int) ^ i,(k:Int),(i:Int),()):lJ)) k (fun r=>r=some (Sum.inr ((10:Int) ^ k,()))) ?_ ?_ n 0 _ rfl (Wp _) (by omega)
 ·rintro i X again hi rfl hag
  unfold pI
  dsimp only
  have h1:(10:Int) ^ (i+1)≤10 ^ 17:=by
   have:=Wm (n:=10) (by omega) (show i+1≤17 by omega)
   have h2:=Uw.2 this
   simpa using h2
  have h0:(0:Int)<10 ^ (i+1):=Int.pow_pos (by decide)
  rw[aG (by omega),show (10:Int) ^ i*10=10 ^ (i+1) from (Uy _ _).symm,ax (by omega) (by omega),ax (n:=(i:Int)+1) (by omega) (by omega)]
  exact hag _ rfl
 ·rintro X again rfl
  unfold pI
  dsimp only
  rw[aN (by omega)]
def qQ (p:List UInt8):Bool:=decide (p.length≤15)&&(decide (p≠[])&&p.all gw)
theorem Jg (p:List UInt8):qz p=some (if qQ p=true then ((10:Int) ^ (17 - p.length),true,()) else (0,false,())):=by
 unfold qz qQ
 by_cases h1:15<p.length
 ·rw[aG (by omega),WG (show ¬p.length≤15 by omega),Bool.false_and,WO (by decide)]
 rw[aN (by omega),WH (show p.length≤15 by omega),Un,yN p (by omega),Wq]
 dsimp only
 cases hd:(decide (p≠[])&&p.all gw) with
 | false=>rw[Uj,WD,WO (by decide)]
 | true=>
  have e:w64 (17 - (p.length:Int))=((17 - p.length:Nat):Int):=by rw[ax (by omega) (by omega)];omega
  rw[Uk,WC,WQ rfl,e,QK _ (by omega) _ (by rw[Int.natAbs_natCast];omega),aU]
def FG (p:List UInt8) (n:Nat):List UInt8:=(p++Lib.repeatL [48] (17 - p.length - (Lib.decDigits n).length))++Lib.decDigits n
theorem Rk (p:List UInt8) (n:Nat):vN ((FG p n).drop p.length)=vN (Lib.decDigits n):=by
 unfold FG
 rw[UK,UQ,AN]
structure F6 (p:List UInt8) (n:Int) (s:List UInt8):Prop where
 n0:0≤n
 pl:p.length≤15
 ok:lbl s=true
 form:∃ c,s=FG p n.toNat++[c]
 val:vN ((FG p n.toNat).drop p.length)=n.toNat
end Go.Md
set_option linter.all false
set_option maxRecDepth 20000
namespace Go.Md
open Go.Dn
def dg8 (c:UInt8):Int:=w64 (wu8 ((c.toNat:Int) - 48))
theorem PU (c:UInt8):0≤dg8 c∧dg8 c≤255:=by
 have h:0≤wu8 ((c.toNat:Int) - 48)∧wu8 ((c.toNat:Int) - 48)≤255:=by
  unfold wu8
  have e:IntKind.wrap .u8 ((c.toNat:Int) - 48)=((c.toNat:Int) - 48) % 256:=by
   rfl
  rw[e]
  omega
 unfold dg8
 rw[ax (by omega) (by omega)]
 exact h
def thr (s:List UInt8):Nat→Int
 | 0=>0
 | i+1=>thr s i+((s[s.length - 1 - i]?).map dg8).getD 0*(if i % 2=1 then 3 else 1)
theorem MA (s:List UInt8):∀ i,0≤thr s i∧thr s i≤765*i
 | 0=>⟨Up _,Up _⟩
 | i+1=>by
  have ih:=MA s i
  have hd:0≤((s[s.length - 1 - i]?).map dg8).getD 0∧((s[s.length - 1 - i]?).map dg8).getD 0≤255:=by
   cases s[s.length - 1 - i]? with
   | none=>exact⟨Up _,by decide⟩
   | some c=>exact PU c
  simp only[thr]
  split
  ·omega
  ·omega
theorem QZ (s:List UInt8) (hs:s.length≤100):vu s=some (Int.tmod (thr s s.length) 10==0,()):=by
 unfold vu
 have loop:∀ f,s.length<f→iter f ((s,(0:Int),(s.length:Int),(0:Int),()):fE) iY=some (Sum.inr (thr s s.length,())):=by
  intro f hf
  refine bJ (Inv:=fun i X=>X=((s,thr s i,(s.length:Int),(i:Int),()):fE)) s.length
   (fun r=>r=some (Sum.inr (thr s s.length,()))) ?_ ?_ f 0 _ rfl (by omega) (by omega)
  ·rintro i _ again hi rfl ih
   have hb:=MA s i
   unfold iY
   dsimp only
   have e:w64 (w64 ((s.length:Int) - 1) - (i:Int))=((s.length - 1 - i:Nat):Int):=by
    rw[ax (n:=(s.length:Int) - 1) (by omega) (by omega),ax (by omega) (by omega)];omega
   have hy:s[s.length - 1 - i]? =some (s[s.length - 1 - i]'(by omega)):=az (by omega)
   have hd:=PU (s[s.length - 1 - i]'(by omega))
   have ht:thr s (i+1)=thr s i+dg8 (s[s.length - 1 - i]'(by omega))*(if i % 2=1 then 3 else 1):=by
    simp only[thr];rw[hy];rfl
   have em:(Int.tmod (i:Int) 2==1)=decide (i % 2=1):=by
    rw[UC (by omega)]
    by_cases h:i % 2=1
    ·rw[WH h];simp;omega
    ·rw[WG h];simp;omega
   rw[aG (by omega),e,FX hy,Wq,ax (n:=(i:Int)+1) (by omega) (by omega),em]
   by_cases h:i % 2=1
   ·rw[WQ h] at ht
    rw[WH h,WD]
    refine ih _ ?_
    rw[ht]
    show _=((s,thr s i+dg8 _*3,_,_,()):fE)
    rw[show w64 (w64 (wu8 (((s[s.length - 1 - i]'(by omega)).toNat:Int) - 48))*3)=dg8 (s[s.length - 1 - i]'(by omega))*3 from ax (by unfold dg8 at hd;omega) (by unfold dg8 at hd;omega),ax (by omega) (by omega)]
    rfl
   ·rw[WO h,Uv] at ht
    rw[WG h,WC]
    refine ih _ ?_
    rw[ht]
    show ((s,w64 (thr s i+dg8 (s[s.length - 1 - i]'(by omega))),_,_,()):fE)=_
    rw[ax (by omega) (by omega)]
    rfl
  ·rintro _ again rfl
   unfold iY
   dsimp only
   rw[aN (by omega)]
 rw[loop _ (by omega),aU]
def F0 (b:List UInt8):Nat→Int
 | 0=>0
 | i+1=>F0 b i+((b[b.length - 1 - i]?).map dg8).getD 0*(if (i+1) % 2=1 then 3 else 1)
theorem F1 (b:List UInt8) (c:UInt8):∀ i,i≤b.length→thr (b++[c]) (i+1)=dg8 c+F0 b i
 | 0,_=>by
  have:(b++[c])[(b++[c]).length - 1 - 0]? =some c:=by simp
  simp only[thr,F0]
  rw[this]
  simp
 | i+1,h=>by
  have ih:=F1 b c i (by omega)
  have e:(b++[c])[(b++[c]).length - 1 - (i+1)]? =b[b.length - 1 - i]? :=by
   rw[Vi,Vo,U0 (by omega)]
   congr 1
   omega
  rw[show thr (b++[c]) (i+1+1)=thr (b++[c]) (i+1)+(((b++[c])[(b++[c]).length - 1 - (i+1)]?).map dg8).getD 0*(if (i+1) % 2=1 then 3 else 1) from rfl,ih,e]
  simp only[F0]
  omega
theorem MR (b:List UInt8) (hb:b.length=17) (hd:b.all gw=true):∃ i,i<10∧lbl (b++[UInt8.ofNat (48+i)])=true:=by
 have h0:0≤F0 b 17:=by
  have h1:=(MA (b++[48]) 18).1
  rw[F1 b 48 17 (by omega)] at h1
  have h2:dg8 48=0:=by decide
  omega
 obtain⟨m,hm⟩:∃ m:Nat,F0 b 17=m:=⟨(F0 b 17).toNat,by omega⟩
 have key:∀ i:Nat,i<10→dg8 (UInt8.ofNat (48+i))=i∧gw (UInt8.ofNat (48+i))=true:=by decide
 refine⟨(10 - m % 10) % 10,by omega, ?_⟩
 obtain⟨k1,k2⟩:=key ((10 - m % 10) % 10) (by omega)
 generalize UInt8.ofNat (48+(10 - m % 10) % 10)=c at*
 have hl:(b++[c]).length=18:=by simp[hb]
 unfold lbl
 rw[QZ _ (by omega),hl,WH rfl,Un,UE,hd,Un]
 rw[F1 b c 17 (by omega),k1,hm]
 simp only[UF,UH,k2,Ub,Un,Wv,Wr]
 rw[UC (by omega)]
 simp only[Wz]
 omega
theorem Ls (body:List UInt8) (hb:body.length=17) (hd:body.all gw=true):∃ c,lY 3 body=some (body++[c],0,())∧lbl (body++[c])=true:=by
 have II:maxLen=9223372036854775807:=rfl
 obtain⟨j,hj,hjl⟩:=MR body hb hd
 have loop:∀ n,10<n→∃ c,lbl (body++[c])=true∧iter (X:=fo) (β:=iB) n (3,body,0,()) lZ=some (Sum.inl (body++[c],0,())):=by
  intro n hn
  refine bJ (Inv:=fun i X=>i≤j∧X=(((3:Int),body,(i:Int),()):fo)) 10 (fun r=>∃ c,lbl (body++[c])=true∧r=some (Sum.inl (body++[c],0,()))) ?_ ?_ n 0 _ ⟨Wp _,rfl⟩ (by omega) (by omega)
  ·rintro i X again hi ⟨hij,rfl⟩ hag
   unfold lZ
   dsimp only
   have hdd:Lib.decDigits i=[UInt8.ofNat (48+i)]:=by rw[Lib.decDigits,dif_pos hi]
   rw[aG (by omega),NQ (by omega),Wq,hdd]
   dsimp only
   rw[bn (WH (by simp;omega)),Qa _ (by simp;omega),Wq]
   dsimp only
   cases hl:lbl (body++[UInt8.ofNat (48+i)]) with
   | true=>exact⟨_,hl,rfl⟩
   | false=>
    rw[WC,ax (by omega) (by omega)]
    refine hag _ ⟨?_,rfl⟩
    rcases V7 hij with h | h
    ·omega
    ·subst h;rw[hjl] at hl;cases hl
  ·rintro X again ⟨hij,rfl⟩
   omega
 unfold lY jG
 rw[eU,Wq,Wq]
 dsimp only
 rw[show (!(!(decide ((3:Int)<1∨(5:Int)<3))))=false by decide,WC,aN (by omega),show ((3:Int)==4)=false from rfl,WC]
 obtain⟨c,h1,h2⟩:=loop (Int.natAbs (3:Int)+(List.length body+(Int.natAbs (0:Int)+2))) (by rw[hb];decide)
 rw[h2,eS]
 exact⟨c,rfl,h1⟩
end Go.Md
set_option linter.all false
set_option maxRecDepth 20000
namespace Go.Md
open Go.Dn
theorem vI:∀ (k u:Nat),u<10 ^ (k+1)→(Lib.decDigits u).all gw=true
 | k,u,h=>by
  have key:∀ i:Nat,i<10→gw (UInt8.ofNat (48+i))=true:=by decide
  rw[Lib.decDigits]
  by_cases h1:u<10
  ·rw[dif_pos h1]
   simp only[UF,UH,Ub]
   exact key u h1
  ·rw[dif_neg h1]
   cases k with
   | zero=>omega
   | succ k=>
    have ih:=vI k (u / 10) (by
     have:10 ^ (k+1+1)=10 ^ (k+1)*10:=Wn ..
     omega)
    rw[UE,ih,Un]
    simp only[UF,UH,Ub]
    exact key (u % 10) (by omega)
theorem DH:∀ k:Nat,(Lib.repeatL [48] k).all gw=true
 | 0=>rfl
 | k+1=>by
  show ([48]++Lib.repeatL [48] k).all gw=true
  rw[UE,DH k];rfl
theorem G7 {p:List UInt8} (hp:qQ p=true) (m:Nat) (hm:m<10 ^ (17 - p.length)):∃ s,eX p (m:Int)=some (s,0,())∧F6 p (m:Int) s:=by
 have II:maxLen=9223372036854775807:=rfl
 unfold eX
 rw[Jg,Wq,WQ hp]
 dsimp only
 rw[Uk,WC]
 have hp':=hp
 unfold qQ at hp'
 simp only[T9,WI] at hp'
 have hpl:p.length≤15:=hp'.1
 have hne:0<p.length:=List.length_pos_iff.2 hp'.2.1
 have h1:(10:Int) ^ (17 - p.length)≤10 ^ 17:=by
  have:=Wm (n:=10) (by omega) (show 17 - p.length≤17 by omega)
  have h2:=Uw.2 this
  simpa using h2
 have h0:(0:Int)<10 ^ (17 - p.length):=Int.pow_pos (by decide)
 have hmi:(m:Int)<10 ^ (17 - p.length):=by
  have:=Int.ofNat_lt.2 hm
  simpa using this
 rw[ax (n:=(10:Int) ^ (17 - p.length) - 1) (by omega) (by omega),eU,Wq]
 dsimp only
 rw[WG (show ¬((m:Int)<0∨(10:Int) ^ (17 - p.length) - 1<(m:Int)) by omega),WC]
 have hm':m<10 ^ (16 - p.length+1):=by
  rw[show 16 - p.length+1=17 - p.length by omega];exact hm
 obtain⟨g1,g2,g3⟩:=CL _ _ hm'
 have gd:=vI _ _ hm'
 have hml:m≤9223372036854775807:=by omega
 rw[NQ hml,Wq]
 dsimp only
 have er:w64 (w64 (17 - (p.length:Int)) - ((Lib.decDigits m).length:Int))=((17 - p.length - (Lib.decDigits m).length:Nat):Int):=by
  rw[ax (n:=17 - (p.length:Int)) (by omega) (by omega),ax (by omega) (by omega)];omega
 have hrl:(Lib.repeatL [48] (17 - p.length - (Lib.decDigits m).length)).length=17 - p.length - (Lib.decDigits m).length:=by rw[Lib.repeatL_length,Vo,Nat.mul_one]
 rw[er,QJ _ (by omega),Wq]
 dsimp only
 have hll:((p++Lib.repeatL [48] (17 - p.length - (Lib.decDigits m).length))++Lib.decDigits m).length=17:=by
  rw[Vi,Vi,hrl];omega
 rw[bn (WH (by rw[hrl];omega)),bn (WH (by rw[Vi,hrl];omega))]
 obtain⟨c,q1,q2⟩:=Ls _ hll (by rw[UE,UE,DH,gd,hp'.2.2];rfl)
 rw[q1,Wq]
 refine⟨_,rfl,by omega,hpl,q2,⟨c,by rw[UD];rfl⟩, ?_⟩
 rw[UD,Rk,g1]
def vR (p:List UInt8) (n:Int):Int:=if qQ p=true then (if n<0∨(10:Int) ^ (17 - p.length) - 1<n then 1 else 0) else 3
theorem KG (p:List UInt8) (n:Int) (h:vR p n≠0):eX p n=some ([],vR p n,()):=by
 unfold vR at*
 unfold eX
 rw[Jg,Wq]
 by_cases hp:qQ p=true
 ·rw[WQ hp] at*
  by_cases hn:n<0∨(10:Int) ^ (17 - p.length) - 1<n
  ·rw[WQ hn]
   dsimp only
   have hp':=hp
   unfold qQ at hp'
   simp only[T9,WI] at hp'
   have h1:(10:Int) ^ (17 - p.length)≤10 ^ 17:=by
    have:=Wm (n:=10) (by omega) (show 17 - p.length≤17 by omega)
    have h2:=Uw.2 this
    simpa using h2
   have h0:(0:Int)<10 ^ (17 - p.length):=Int.pow_pos (by decide)
   rw[Uk,WC,ax (n:=(10:Int) ^ (17 - p.length) - 1) (by omega) (by omega),eU,Wq]
   dsimp only
   rw[WH hn,WD,WQ hp]
  ·rw[WO hn] at h
   exact absurd rfl h
 ·rw[WO hp] at*
  rw[WO hp]
  rfl
def dvf (k:Nat) (l:List UInt8):Nat:=l.foldl (fun n b=>n*10+(b.toNat - 48)) k
theorem LL:∀ (l:List UInt8) (k:Nat),l.all gw=true→k*10 ^ l.length≤dvf k l∧dvf k l<(k+1)*10 ^ l.length
 | [],k,_=>by simp[dvf]
 | b::l,k,h=>by
  simp only[UF,T9] at h
  have ih:=LL l (k*10+(b.toNat - 48)) h.2
  have hd:=h.1
  unfold gw at hd
  simp only[T9,WI] at hd
  have e:dvf k (b::l)=dvf (k*10+(b.toNat - 48)) l:=rfl
  have p:10 ^ (b::l).length=10*10 ^ l.length:=by rw[Vj,Wn,Wh]
  rw[e,p]
  constructor
  ·refine V3 ?_ ih.1
   rw[← Wg]
   exact Wi _ (by omega)
  ·refine V6 ih.2 ?_
   rw[← Wg]
   exact Wi _ (by omega)
theorem LM:∀ (a b x y:List UInt8) (k:Nat),a.length=b.length→a.all gw=true→b.all gw=true→dvf k a<dvf k b→Op.bytesLess (a++x) (b++y)=true
 | [],[],_,_,k,_,_,_,h=>absurd h (Nat.lt_irrefl _)
 | a::ra,b::bs,x,y,k,hl,ha,hb,h=>by
  simp only[UF,T9] at ha hb
  have hda:=ha.1;have hdb:=hb.1
  unfold gw at hda hdb
  simp only[T9,WI] at hda hdb
  have hl':ra.length=bs.length:=by simpa using hl
  simp only[UL,Op.bytesLess,Um,T9,WI,Wz]
  rcases Wc a.toNat b.toNat with g | g | g
  ·exact .inl (UInt8.lt_iff_toNat_lt.2 g)
  ·have e:a=b:=UInt8.toNat_inj.1 g
   subst e
   exact .inr ⟨rfl,LM ra bs x y (k*10+(a.toNat - 48)) hl' ha.2 hb.2 h⟩
  ·exfalso
   have h1:=(LL ra (k*10+(a.toNat - 48)) ha.2).1
   have h2:=(LL bs (k*10+(b.toNat - 48)) hb.2).2
   have h3:(k*10+(b.toNat - 48)+1)*10 ^ bs.length≤(k*10+(a.toNat - 48))*10 ^ ra.length:=by
    rw[hl']
    exact Wi _ (by omega)
   have h4:dvf (k*10+(a.toNat - 48)) ra<dvf (k*10+(b.toNat - 48)) bs:=h
   omega
theorem JE:∀ (p a b:List UInt8),Op.bytesLess a b=true→Op.bytesLess (p++a) (p++b)=true
 | [],_,_,h=>h
 | c::p,a,b,h=>by
  simp only[UL,Op.bytesLess,Um,T9,Wz]
  exact .inr ⟨trivial,JE p a b h⟩
theorem Qi {p:List UInt8} (hpl:p.length≤15) {m n:Nat} (hm:m<10 ^ (17 - p.length)) (hn:n<10 ^ (17 - p.length)) (h:m<n) (x y:List UInt8):Op.bytesLess (FG p m++x) (FG p n++y)=true:=by
 have fact:∀ u,u<10 ^ (17 - p.length)→(Lib.repeatL [48] (17 - p.length - (Lib.decDigits u).length)++Lib.decDigits u).length=17 - p.length∧(Lib.repeatL [48] (17 - p.length - (Lib.decDigits u).length)++Lib.decDigits u).all gw=true∧dvf 0 (Lib.repeatL [48] (17 - p.length - (Lib.decDigits u).length)++Lib.decDigits u)=u:=by
  intro u hu
  have hu':u<10 ^ (16 - p.length+1):=by
   rw[show 16 - p.length+1=17 - p.length by omega];exact hu
  obtain⟨g1,g2,g3⟩:=CL _ _ hu'
  refine⟨?_, ?_, ?_⟩
  ·rw[Vi,Lib.repeatL_length,Vo,Nat.mul_one];omega
  ·rw[UE,DH,vI _ _ hu'];rfl
  ·show vN _=u
   rw[AN,g1]
 obtain⟨l1,d1,v1⟩:=fact m hm
 obtain⟨l2,d2,v2⟩:=fact n hn
 unfold FG
 rw[UK p,UK p,UK p,UK p]
 refine JE p _ _ ?_
 exact LM _ _ x y 0 (l1.trans l2.symm) d1 d2 (by rw[v1,v2];exact h)
theorem Nf {p s t:List UInt8} {m n:Nat} (h1:F6 p (m:Int) s) (h2:F6 p (n:Int) t) (hm:m<10 ^ (17 - p.length)) (hn:n<10 ^ (17 - p.length)) (h:m<n):Op.bytesLess s t=true:=by
 obtain⟨c,rfl⟩:=h1.form
 obtain⟨d,rfl⟩:=h2.form
 rw[UD,UD]
 exact Qi h1.pl hm hn h _ _
end Go.Md
set_option linter.all false
set_option maxRecDepth 20000
namespace Go.Md
open Go.Dn
def bD (g:ah):Tw:=(g.1,g.2.1)
theorem Q6 (a b:Tw):Ty.beq aB a b=true↔a=b:=by
 show ((a.1==b.1)&&(a.2==b.2))=true↔_
 rw[T9,Wz,Wz]
 constructor
 ·rintro⟨h1,h2⟩;exact Prod.ext h1 h2
 ·rintro rfl;exact⟨rfl,rfl⟩
def Lg (M:List (Tw×Bool)) (k:Tw):Option Bool:=bQ (k:=aB) (v:= .bool) M k
def Ox (M:List (Tw×Bool)) (k:Tw) (b:Bool):List (Tw×Bool):=fJ (k:=aB) (v:= .bool) M k b
theorem PA (M:List (Tw×Bool)) (x:Tw) (y:Bool) (n:Tw):Lg (Ox M x y) n=if x=n then some y else Lg M n:=by
 have h:=Qs (k:=aB) (v:= .bool) Q6 M x y n
 refine Eq.trans h ?_
 cases hb:Ty.beq aB x n with
 | true=>rw[WQ ((Q6 _ _).1 hb)];rfl
 | false=>rw[WO (fun e=>by rw[(Q6 x n).2 e] at hb;cases hb)];rfl
def uS (M:List (Tw×Bool)):List ah→List (Tw×Bool)
 | []=>M
 | g::l=>uS (Ox M (bD g) true) l
theorem HK (y:ah):∀ (l:List ah) (M:List (Tw×Bool)),uS M (l++[y])=Ox (uS M l) (bD y) true
 | [],_=>rfl
 | g::l,M=>HK y l _
theorem Mv (k:Tw):∀ (l:List ah) (M:List (Tw×Bool)),Lg (uS M l) k=if k∈l.map bD then some true else Lg M k
 | [],M=>by simp[uS]
 | g::l,M=>by
  simp only[uS]
  rw[Mv k l,PA]
  by_cases h:k∈l.map bD
  ·rw[WQ h,WQ (show k∈(g::l).map bD from Vv _ h)]
  ·rw[WO h]
   by_cases hb:bD g=k
   ·rw[WQ hb,WQ (show k∈(g::l).map bD by rw[← hb];exact Vw)]
   ·rw[WO hb,WO (show ¬k∈(g::l).map bD from fun hm=>by
     rcases Vu.1 hm with e | e
     ·exact hb e.symm
     ·exact h e)]
def gF (l:List ah) (i:Nat) (y:ah):Int:=if dS y.1=true then (if dS y.2.1=true then (if bD y∈(l.take i).map bD then 7 else if qOk y.2.2 false=true then 0 else 1) else 5) else 5
def fT (l:List ah):Int:=dy (gF l) 0 l
theorem BJ (l:List ah) (hl:l.length≤1000):kX l=some (fT l,()):=by
 unfold kX fT
 rw[me (f:=iE) (fun i=>((l,(l.length:Int),(i:Int),uS [] (l.take i),()):iF)) l (gF l) () ?_ ?_ ?_ _ ?_]
 ·exact Pn _ _
 ·rfl
 ·intro i y again hy
  have hi:=(U7.1 hy).1
  have ets:l.take (i+1)=l.take i++[y]:=by rw[List.take_succ,hy];rfl
  have hg:=Mv (bD y) (l.take i) []
  have hs:Ox (uS [] (l.take i)) (bD y) true=uS [] (l.take (i+1)):=by rw[ets,HK]
  generalize uS [] (l.take i)=M at hg hs ⊢
  have hgd:Option.getD (α:=Bool) (bQ (k:=aB) (v:= .bool) M (y.1,y.2.1)) false=decide (bD y∈(l.take i).map bD):=by
   show (Lg M (bD y)).getD false=_
   rw[hg]
   by_cases h:bD y∈(l.take i).map bD
   ·rw[WQ h,WH h];rfl
   ·rw[WO h,WG h];rfl
  unfold iE
  dsimp only
  rw[aG (by omega),bF,hy,Wq,qL,Wq]
  dsimp only
  unfold gF
  cases dS y.1 with
  | false=>rw[Uj,WD,WO (by simp),WO (by decide)]
  | true=>
   rw[Uk,WC,WQ rfl,qL,Wq]
   dsimp only
   cases dS y.2.1 with
   | false=>rw[Uj,WD,WO (by simp),WO (by decide)]
   | true=>
    rw[Uk,WC,WQ rfl]
    rw[hgd]
    by_cases h:bD y∈(l.take i).map bD
    ·rw[WH h,WD,WQ h,WO (by decide)]
    ·rw[WG h,WC,WO h,kM,Wq]
     dsimp only
     cases hq:qOk y.2.2 false with
     | false=>
      simp
     | true=>
      simp only[WR,WB,WC]
      rw[ax (by omega) (by omega), ← hs]
      rfl
 ·intro again
  unfold iE
  dsimp only
  rw[aN (by omega)]
 ·exact (by omega)
def th (d:ai):Int:=d.1*10 ^ (3 - d.2).toNat
theorem oF {d:ai} (h:qOk d false=true):cA d∧0≤d.2∧d.2≤3∧1≤d.1∧1≤th d∧th d≤1000000000000:=by
 unfold qOk inR at h
 simp only[T9,WI,Bool.or_false,Ui,Wy,Int.zero_mul] at h
 obtain⟨⟨h1,h2,h3,h4⟩,h5⟩:=h
 have h3:0≤d.1:=h3
 have hd:=h1
 unfold cA at hd
 obtain⟨k,hk⟩:∃ k:Nat,d.2=k:=⟨d.2.toNat,by omega⟩
 have e:(10:Int) ^ d.2.toNat*10 ^ (3 - d.2).toNat=1000:=by
  rw[← Ux,show d.2.toNat+(3 - d.2).toNat=3 by omega];decide
 have p1:(0:Int)<10 ^ (3 - d.2).toNat:=Int.pow_pos (by decide)
 refine⟨h1,by omega,h2,by omega, ?_, ?_⟩
 ·unfold th
  exact Int.mul_pos (show 0<d.1 by omega) p1
 ·unfold th
  have:=Ut h4 (Int.le_of_lt p1)
  rw[Ur,e] at this
  omega
theorem uo {d:ai} (h:qOk d false=true):eY d=some (th d,()):=by
 obtain⟨h1,h2,h3,h4,h5,h6⟩:=oF h
 have hd:=h1
 unfold cA at hd
 unfold eY
 rw[w8 d 3 (by omega) (by omega) (by omega) (by omega) (by omega),Wq]
 dsimp only
 rw[show d.1*10 ^ (3 - d.2).toNat=th d from rfl,yh _ _ (by omega) (by omega),WQ (by omega),Wq]
end Go.Md
set_option linter.all false
set_option maxRecDepth 20000
namespace Go.Md
open Go.Dn
theorem O6 (y g:ah):pH y g=some (decide (bD y=bD g),()):=by
 unfold pH
 have e:decide (bD y=bD g)=((y.1==g.1)&&(y.2.1==g.2.1)):=by
  rw[Uc,decide_eq_true_iff,T9,Wz,Wz]
  constructor
  ·intro h
   have h':(y.1,y.2.1)=(g.1,g.2.1):=h
   exact⟨(Prod.mk.inj h').1,(Prod.mk.inj h').2⟩
  ·rintro⟨h1,h2⟩;exact Prod.ext h1 h2
 rw[e]
 cases (y.1==g.1)<;>rfl
def kS (most:List ah) (g:ah):Option ah:=most.find? fun m=>decide (bD m=bD g)
theorem SL (most:List ah) (hl:most.length≤1000) (g:ah):
 (∃ (k:Nat) (x:ah),most[k]? =some x∧kS most g=some x∧dn most g=some ((k:Int),()))∨(kS most g=none∧dn most g=some (-1,())):=by
 unfold dn
 have loop:∀ f,most.length<f→(∃ (k:Nat) (x:ah),most[k]? =some x∧kS most g=some x∧iter f ((most,g,(most.length:Int),(0:Int),()):cq) cZ=some (Sum.inl ((k:Int),())))∨(kS most g=none∧iter f ((most,g,(most.length:Int),(0:Int),()):cq) cZ=some (Sum.inr ())):=by
  intro f hf
  refine bJ (Inv:=fun i X=>(∀ j (hj:j<most.length),j<i→bD most[j]≠bD g)∧X=((most,g,(most.length:Int),(i:Int),()):cq)) most.length
   (fun r=>(∃ (k:Nat) (x:ah),most[k]? =some x∧kS most g=some x∧r=some (Sum.inl ((k:Int),())))∨(kS most g=none∧r=some (Sum.inr ()))) ?_ ?_ f 0 _ ⟨fun j _ h=>absurd h (Wj _),rfl⟩ (by omega) (by omega)
  ·rintro i _ again hi ⟨hb,rfl⟩ ih
   have hy:most[i]? =some most[i]:=az hi
   unfold cZ
   dsimp only
   rw[aG (by omega),bF,hy,Wq,O6,Wq]
   dsimp only
   by_cases h:bD most[i]=bD g
   ·rw[WH h,WD]
    refine .inl ⟨i,most[i],hy, ?_,rfl⟩
    unfold kS
    rw[List.find?_eq_some_iff_getElem]
    exact⟨WH h,i,hi,rfl,fun j hj=>by rw[WG (hb j (by omega) hj)];rfl⟩
   ·rw[WG h,WC,ax (by omega) (by omega)]
    refine ih _ ⟨fun j hj hji=> ?_,rfl⟩
    rcases Wa.1 hji with e | e
    ·exact hb j hj e
    ·subst e;exact h
  ·rintro _ again ⟨hb,rfl⟩
   unfold cZ
   dsimp only
   rw[aN (by omega)]
   refine .inr ⟨?_,rfl⟩
   unfold kS
   rw[List.find?_eq_none]
   intro x hx
   obtain⟨j,hj⟩:=Vy.1 hx
   obtain⟨hjl,rfl⟩:=U7.1 hj
   simpa using hb j hjl hjl
 rcases loop (List.length most+(Int.natAbs ((List.length most:Int))+(Int.natAbs (0:Int)+2))) (by omega) with ⟨k,x,h1,h2,h3⟩ | ⟨h1,h2⟩
 ·rw[h3,eS];exact .inl ⟨k,x,h1,h2,rfl⟩
 ·rw[h2,aU];exact .inr ⟨h1,rfl⟩
def GOk (l:List ah):Prop:=∀ g∈l,qOk g.2.2 false=true
theorem C0 {l:List ah} (h:fT l=0):GOk l∧∀ (i:Nat) (y:ah),l[i]? =some y→dS y.1=true∧dS y.2.1=true∧bD y∉(l.take i).map bD:=by
 have key:∀ (i:Nat) (y:ah),l[i]? =some y→dS y.1=true∧dS y.2.1=true∧bD y∉(l.take i).map bD∧qOk y.2.2 false=true:=by
  intro i y hy
  have:=iI h i y hy
  rw[Wo] at this
  unfold gF at this
  split at this
  ·split at this
   ·split at this
    ·omega
    ·split at this
     ·rename_i h1 h2 h3 h4;exact⟨h1,h2,h3,h4⟩
     ·omega
   ·omega
  ·omega
 refine⟨fun g hg=> ?_,fun i y hy=>⟨(key i y hy).1,(key i y hy).2.1,(key i y hy).2.2.1⟩⟩
 obtain⟨i,hi⟩:=Vy.1 hg
 exact (key i g hi).2.2.2
def jA (most:List ah) (g:ah):Int:=((kS most g).map fun m=>th m.2.2).getD 0
def pe (a b:Int):Int:=(a+b - 1) / b
def b7 (most:List ah):List ah→Int
 | []=>0
 | g::r=>pe (th g.2.2) (jA most g)+b7 most r
theorem A5 (most:List ah) (y:ah):∀ l,b7 most (l++[y])=b7 most l+pe (th y.2.2) (jA most y)
 | []=>by simp[b7]
 | g::l=>by simp only[UL,b7,A5 most y l];omega
theorem Hq {most:List ah} (hm:GOk most) {g x:ah} (h:kS most g=some x):jA most g=th x.2.2∧qOk x.2.2 false=true∧1≤jA most g∧jA most g≤1000000000000:=by
 have hx:x∈most:=List.mem_of_find?_eq_some h
 have hq:=hm x hx
 have e:jA most g=th x.2.2:=by unfold jA;rw[h];rfl
 obtain⟨_,_,_,_,h5,h6⟩:=oF hq
 exact⟨e,hq,by rw[e];exact h5,by rw[e];exact h6⟩
theorem H7 {a b:Int} (ha:1≤a) (ha2:a≤1000000000000) (hb:1≤b) (hb2:b≤1000000000000):1≤pe a b∧pe a b≤2000000000000∧w64 (Int.tdiv (w64 ((w64 (a+b)) - 1)) b)=pe a b:=by
 have h1:1≤(a+b - 1) / b:=by
  rw[Int.le_ediv_iff_mul_le (by omega)];omega
 have h2:(a+b - 1) / b≤a+b - 1:=Int.ediv_le_self _ (by omega)
 unfold pe
 refine⟨h1,by omega, ?_⟩
 rw[ax (n:=a+b) (by omega) (by omega),ax (n:=a+b - 1) (by omega) (by omega),UB (by omega),ax (by omega) (by omega)]
theorem Nr {items most:List ah} (hil:items.length≤100) (hml:most.length≤100) (hi:GOk items) (hm:GOk most):
 ((∀ g∈items,(kS most g).isSome=true)∧oD items most=some (b7 most items,items.map (jA most),0,()))∨oD items most=some (0,[],9,()):=by
 have II:maxLen=9223372036854775807:=rfl
 unfold oD
 have loop:∀ f,items.length<f→((∀ g∈items,(kS most g).isSome=true)∧iter f ((most,(0:Int),([]:List Int),items,(items.length:Int),(0:Int),()):gN) jZ=some (Sum.inr (b7 most items,items.map (jA most),())))∨iter f ((most,(0:Int),([]:List Int),items,(items.length:Int),(0:Int),()):gN) jZ=some (Sum.inl (0,[],9,())):=by
  intro f hf
  refine bJ (Inv:=fun i X=>(∀ g∈items.take i,(kS most g).isSome=true)∧0≤b7 most (items.take i)∧b7 most (items.take i)≤i*2000000000000∧X=((most,b7 most (items.take i),(items.take i).map (jA most),items,(items.length:Int),(i:Int),()):gN)) items.length
   (fun r=>((∀ g∈items,(kS most g).isSome=true)∧r=some (Sum.inr (b7 most items,items.map (jA most),())))∨r=some (Sum.inl (0,[],9,()))) ?_ ?_ f 0 _ ⟨fun g hg=>by simp at hg,Up _,Up _,rfl⟩ (by omega) (by omega)
  ·rintro i _ again hii ⟨hb,h0,h2,rfl⟩ ih
   have hy:items[i]? =some items[i]:=az hii
   have hqi:=hi _ (Vh hii)
   obtain⟨_,_,_,_,t1,t2⟩:=oF hqi
   have ets:items.take (i+1)=items.take i++[items[i]]:=by rw[List.take_succ,hy];rfl
   have hlen:(items.take i).length=i:=by rw[Vp];omega
   unfold jZ
   dsimp only
   rw[aG (by omega),bF,hy,Wq]
   rcases SL most (by omega) items[i] with ⟨k,x,k1,k2,k3⟩ | ⟨k1,k2⟩
   ·obtain⟨e1,e2,e3,e4⟩:=Hq hm k2
    obtain⟨c1,c2,c3⟩:=H7 t1 t2 e3 e4
    rw[k3,Wq]
    dsimp only
    rw[aN (by omega),bF,k1,Wq,uo e2,Wq]
    dsimp only
    rw[bn (by rw[T9];exact⟨WH (by rw[Vk,hlen];omega),WH (by rw[Vk,hlen];omega)⟩),uo hqi,Wq]
    dsimp only
    rw[← e1,bn (by simp;omega),c3,ax (by omega) (by omega),ax (n:=(i:Int)+1) (by omega) (by omega)]
    have em:b7 most (items.take (i+1))=b7 most (items.take i)+pe (th items[i].2.2) (jA most items[i]):=by rw[ets,A5]
    refine ih _ ⟨fun g hg=> ?_,by omega,by omega, ?_⟩
    ·rw[ets] at hg
     rcases Vt.1 hg with h | h
     ·exact hb g h
     ·rw[VE.1 h,k2];rfl
    ·rw[em,ets,List.map_append];rfl
   ·rw[k2,Wq]
    exact .inr rfl
  ·rintro _ again ⟨hb,h0,h2,rfl⟩
   unfold jZ
   dsimp only
   rw[aN (by omega)]
   rw[VP] at*
   exact .inl ⟨hb,rfl⟩
 rcases loop (List.length most+(Int.natAbs (0:Int)+(List.length ([]:List Int)+(List.length items+(Int.natAbs ((List.length items:Int))+(Int.natAbs (0:Int)+2)))))) (by omega) with ⟨h1,h2⟩ | h2
 ·rw[h2,aU];exact .inl ⟨h1,rfl⟩
 ·rw[h2,eS];exact .inr rfl
def DS (p:List UInt8) (n many:Int):Int:=if many=0 then 0 else if vR p n≠0 then vR p n else if (10:Int) ^ (17 - p.length) - n<many then 1 else 0
theorem IQ (p:List UInt8) (n many:Int):jY p n many=some (DS p n many,()):=by
 unfold jY DS
 by_cases h0:many=0
 ·subst h0;rfl
 rw[WO h0,show (many==0)=false by simpa using h0,WC]
 by_cases hf:vR p n=0
 rotate_left
 ·rw[WQ hf,KG p n hf,Wq]
  dsimp only
  rw[show (vR p n != 0)=true by simpa using hf,WD]
 rw[WO (by simpa using hf)]
 have hp:qQ p=true:=by
  unfold vR at hf
  split at hf
  ·assumption
  ·omega
 have hn:¬(n<0∨(10:Int) ^ (17 - p.length) - 1<n):=by
  unfold vR at hf
  rw[WQ hp] at hf
  intro h
  rw[WQ h] at hf;omega
 obtain⟨m,rfl⟩:∃ m:Nat,n=m:=⟨n.toNat,by omega⟩
 have h1:(10:Int) ^ (17 - p.length)≤10 ^ 17:=by
  have:=Wm (n:=10) (by omega) (show 17 - p.length≤17 by omega)
  have h2:=Uw.2 this
  simpa using h2
 have hm:m<10 ^ (17 - p.length):=by
  have h3:(m:Int)<((10 ^ (17 - p.length):Nat):Int):=by
   rw[Int.natCast_pow]
   show (m:Int)<10 ^ (17 - p.length)
   omega
  omega
 obtain⟨s,g1,_⟩:=G7 hp m hm
 rw[g1,Wq]
 dsimp only
 rw[show ((0:Int) != 0)=false from rfl,WC,Jg,WQ hp,Wq]
 dsimp only
 rw[ax (by omega) (by omega)]
 by_cases h:(10:Int) ^ (17 - p.length) - (m:Int)<many
 ·rw[aG (by omega),WQ h]
 ·rw[aN (by omega),WO h]
end Go.Md
set_option linter.all false
set_option maxRecDepth 20000
namespace Go.Md
open Go.Dn
def Bv (z:Int):ai:=((few 3 z).1,((few 3 z).2:Int))
theorem Q0 {z:Int} (h1:1≤z) (h2:z≤1000000000000):qP z=some (Bv z,()):=by
 obtain⟨f1,f2,f3⟩:=tF 3 z
 unfold qP
 rw[nK z (by omega) (by omega),Wq]
 dsimp only
 have hf:=w6 z (V5 (show z.natAbs≤1000000000000 by omega) (by decide +kernel)) 3 (by omega)
 rw[show ((3:Nat):Int)=(3:Int) from rfl] at hf
 rw[hf,WQ (by omega),Wq]
 rfl
theorem RF {z:Int} (h1:1≤z) (h2:z≤1000000000000):qOk (Bv z) false=true∧v9 (Bv z)=z*1000000:=by
 obtain⟨f1,f2,f3⟩:=tF 3 z
 unfold Bv
 generalize few 3 z=r at*
 obtain⟨u,k⟩:=r
 dsimp only at*
 have hu:u.natAbs≤1000000000000:=by omega
 constructor
 ·unfold qOk inR cA
  dsimp only
  have hk:k=0∨k=1∨k=2∨k=3:=by omega
  simp only[T9,WI,Bool.or_false,Ui,Wy,Int.zero_mul,UD]
  rcases hk with rfl | rfl | rfl | rfl
  ·simp at f2 ⊢;omega
  ·simp at f2 ⊢;omega
  ·simp at f2 ⊢;omega
  ·simp at f2 ⊢;omega
 ·unfold v9
  dsimp only
  have hk:k=0∨k=1∨k=2∨k=3:=by omega
  rcases hk with rfl | rfl | rfl | rfl
  ·simp at f2 ⊢;omega
  ·simp at f2 ⊢;omega
  ·simp at f2 ⊢;omega
  ·simp at f2 ⊢;omega
def yS (S:List (Tw×Int)) (g:ah) (d:Int):List (Tw×Int):=if d=0 then S else S++[(bD g,d*1000000)]
theorem Jx (k:Tw) (z:Int):∀ S:List (Tw×Int),k∉S.map (·.1)→fm k z S=S++[(k,z)]
 | [],_=>rfl
 | p::r,h=>by
  simp only[Vr,Vu,WU] at h
  simp only[fm]
  rw[WO h.1,Jx k z r h.2];rfl
theorem Jw (k:Tw) (z b:Int):∀ S:List (Tw×Int),k∉S.map (·.1)→fm k z (S++[(k,b)])=S++[(k,b+z)]
 | [],_=>by simp[fm]
 | p::r,h=>by
  simp only[Vr,Vu,WU] at h
  show fm k z (p::(r++[(k,b)]))=p::(r++[(k,b+z)])
  simp only[fm]
  rw[WO h.1,Jw k z b r h.2]
theorem Q5 {S:List (Tw×Int)} {g:ah} (h:bD g∉S.map (·.1)) {d z:Int} (hd:0≤d) (hz:0<z):fm (bD g) (z*1000000) (yS S g d)=yS S g (d+z):=by
 unfold yS
 rw[WO (show ¬d+z=0 by omega)]
 by_cases h0:d=0
 ·subst h0
  rw[WQ rfl,Jx _ _ _ h,Int.zero_add]
 ·rw[WO h0,Jw _ _ _ _ h,Int.add_mul]
theorem Mz (B:Nat→Bool) (l:List aa) (q:aa):∀ k,k≤l.length→qh B (l++[q]) k=qh B l k
 | 0,_=>rfl
 | k+1,h=>by
  simp only[qh]
  rw[Mz B l q k (by omega),U0 (by omega)]
structure vD (p:List UInt8) (n:Nat) (out:List aa) (S:List (Tw×Int)):Prop where
 each:∀ (j:Nat) (q:aa),out[j]? =some q→F6 p ((n+j:Nat):Int) q.1∧q.2.1=[]∧q.2.2.1=(0,0)∧∃ c:aX,q.2.2.2=[c]∧dS c.1=true∧dS c.2.1=true∧c.2.2.1=[]∧qOk c.2.2.2 false=true
 sums:qh (fun _=>true) out out.length=S
theorem vD.snoc {p:List UInt8} {n:Nat} {out:List aa} {S:List (Tw×Int)} (h:vD p n out S) {s:List UInt8} {c:aX} (hs:F6 p ((n+out.length:Nat):Int) s) (h1:dS c.1=true) (h2:dS c.2.1=true) (h3:c.2.2.1=[]) (h4:qOk c.2.2.2 false=true):
 vD p n (out++[(s,[],(0,0),[c])]) (fm (ck c) (v9 c.2.2.2) S):=by
 constructor
 ·intro j q hq
  rcases Wc j out.length with g | g | g
  ·rw[U0 g] at hq
   exact h.each j q hq
  ·subst g
   rw[U1 (V2 _),Nat.sub_self] at hq
   cases hq
   exact⟨hs,rfl,rfl,c,rfl,h1,h2,h3,h4⟩
  ·rw[U6 (by simp;omega)] at hq;cases hq
 ·rw[Vi,Vo]
  simp only[qh,WR]
  rw[Mz _ _ _ _ (V2 _),h.sums,U1 (V2 _),Nat.sub_self]
  rfl
def nU (a b:Int):Int:=if 0<a then pe a b else 0
theorem Oz {a b:Int} (ha:0<a) (hb:1≤b):nU a b=1+nU (a - b) b:=by
 unfold nU pe
 rw[WQ ha]
 have e:(a+b - 1) / b=1+(a - 1) / b:=by
  rw[show a+b - 1=(a - 1)+1*b by omega,Int.add_mul_ediv_right _ _ (by omega)];omega
 rw[e]
 by_cases h:0<a - b
 ·rw[WQ h,show a - b+b - 1=a - 1 by omega]
 ·rw[WO h,Int.ediv_eq_zero_of_lt (by omega) (by omega)]
theorem Q8 {a b:Int} (hb:1≤b):0≤nU a b:=by
 unfold nU pe
 split
 ·exact Int.ediv_nonneg (by omega) (by omega)
 ·exact Up _
theorem S6 {p:List UInt8} (hp:qQ p=true) {n:Nat} {items:List ah} {each:List Int} {i:Nat} {g:ah} {one:Int} (hone:each[i]? =some one) (h1:1≤one) (h2:one≤1000000000000) (hq:qOk g.2.2 false=true) (hn1:dS g.1=true) (hn2:dS g.2.1=true) {S:List (Tw×Int)} (hk:bD g∉S.map (·.1)) {T:Int} (hT0:T≤500) (hT:(n:Int)+T≤10 ^ (17 - p.length)) {out:List aa} (ho:vD p n out S) (hlen:(out.length:Int)+nU (th g.2.2) one≤T) (f:Nat) (hf:(th g.2.2).toNat<f):
 ∃ out',vD p n out' (yS S g (th g.2.2))∧(out'.length:Int)=(out.length:Int)+nU (th g.2.2) one∧
  iter (X:=jX) (β:=nX) f (p,(n:Int),out,(i:Int),th g.2.2,items,(items.length:Int),(i:Int),g.1,g.2.1,g.2.2.1,g.2.2.2,each,()) sO=some (Sum.inr (p,(n:Int),out',items,(items.length:Int),(i:Int),each,())):=by
 have II:maxLen=9223372036854775807:=rfl
 obtain⟨_,_,_,_,t1,t2⟩:=oF hq
 have hpl:p.length≤15:=by
  unfold qQ at hp
  simp only[T9,WI] at hp
  exact hp.1
 have h10:(10:Int) ^ (17 - p.length)≤10 ^ 17:=by
  have:=Wm (n:=10) (by omega) (show 17 - p.length≤17 by omega)
  have h2:=Uw.2 this
  simpa using h2
 have hieach:i<each.length:=(U7.1 hone).1
 refine rV (Inv:=fun X=>∃ (out1:List aa) (left:Int),X=((p,(n:Int),out1,(i:Int),left,items,(items.length:Int),(i:Int),g.1,g.2.1,g.2.2.1,g.2.2.2,each,()):jX)∧left≤th g.2.2∧vD p n out1 (yS S g (if 0<left then th g.2.2 - left else th g.2.2))∧(out1.length:Int)+nU left one=(out.length:Int)+nU (th g.2.2) one)
  (fun X=>X.2.2.2.2.1.toNat)
  (fun _ r=>∃ out',vD p n out' (yS S g (th g.2.2))∧(out'.length:Int)=(out.length:Int)+nU (th g.2.2) one∧r=some (Sum.inr (p,(n:Int),out',items,(items.length:Int),(i:Int),each,()))) ?_ f _ ⟨out,th g.2.2,rfl,Up _,by rw[WQ (by omega),Int.sub_self];exact ho,rfl⟩ hf
 rintro _ again ⟨out1,left,rfl,hle,hpk,hcnt⟩ ih
 dsimp only at ih
 unfold sO
 dsimp only
 by_cases hl:0<left
 ·rw[aG hl]
  rw[WQ hl] at hpk
  have hst:=Oz hl h1
  have hnn:=Q8 (a:=left - one) h1
  have hol:(out1.length:Int)+1≤T:=by omega
  have hm:n+out1.length<10 ^ (17 - p.length):=by
   have h3:((n+out1.length:Nat):Int)<((10 ^ (17 - p.length):Nat):Int):=by
    rw[Int.natCast_pow]
    show ((n+out1.length:Nat):Int)<10 ^ (17 - p.length)
    omega
   omega
  obtain⟨s,g1,g2⟩:=G7 hp (n+out1.length) hm
  rw[ax (n:=(n:Int)+(out1.length:Int)) (by omega) (by omega),show (n:Int)+(out1.length:Int)=((n+out1.length:Nat):Int) by omega,g1,Wq]
  dsimp only
  obtain⟨z,hz⟩:∃ z,z=(if one<left then one else left):=⟨_,rfl⟩
  have hz1:1≤z∧z≤1000000000000:=by
   rw[hz];split<;>omega
  obtain⟨q1,q2⟩:=RF hz1.1 hz1.2
  rw[bn (by rw[T9];exact⟨WH (by omega),WH (by omega)⟩),UD,hone,Wq, ← hz,Q0 hz1.1 hz1.2,Wq]
  dsimp only
  rw[bn (by rw[T9];exact⟨WH (by omega),WH (by omega)⟩),bn (by rw[T9];exact⟨WH (by omega),WH (by omega)⟩),Wq,ax (n:=left - one) (by omega) (by omega)]
  have hsn:=hpk.snoc (c:=(g.1,g.2.1,[],Bv z)) g2 hn1 hn2 rfl q1
  have ea:=Q5 (S:=S) (g:=g) hk (d:=th g.2.2 - left) (z:=z) (by omega) (by omega)
  rw[show ck ((g.1,g.2.1,[],Bv z):aX)=bD g from rfl,show v9 ((g.1,g.2.1,[],Bv z):aX).2.2.2=z*1000000 from q2,ea] at hsn
  refine ih _ ⟨_,left - one,rfl,by omega, ?_, ?_⟩ (by show (left - one).toNat<left.toNat;omega)
  ·have e:th g.2.2 - left+z=(if 0<left - one then th g.2.2 - (left - one) else th g.2.2):=by
    rw[hz]
    by_cases h:one<left
    ·rw[WQ h,WQ (by omega)];omega
    ·rw[WO h,WO (by omega)];omega
   rw[← e];exact hsn
  ·rw[Vi,Vo]
   omega
 ·rw[aN hl]
  rw[WO hl] at hpk
  refine⟨out1,hpk, ?_,rfl⟩
  have e:nU left one=0:=by unfold nU;rw[WO hl]
  omega
end Go.Md
set_option linter.all false
set_option maxRecDepth 20000
namespace Go.Md
open Go.Dn
def stS (items:List ah) (i:Nat):List (Tw×Int):=(items.take i).map fun g=>(bD g,th g.2.2*1000000)
theorem Mx (items:List ah) (i:Nat):(stS items i).map (·.1)=(items.take i).map bD:=by
 unfold stS;rw[Vs];rfl
theorem RY {g:ah} (h:qOk g.2.2 false=true) (b:Int):nU (th g.2.2) b=pe (th g.2.2) b:=by
 obtain⟨_,_,_,_,t1,t2⟩:=oF h
 unfold nU;rw[WQ (by omega)]
theorem G9 {most items:List ah} (hi:GOk items) (hm:GOk most) (hs:∀ g∈items,(kS most g).isSome=true):∀ i,i≤items.length→0≤b7 most (items.take i)∧b7 most (items.take i)≤b7 most items:=by
 have pos:∀ l:List ah,(∀ g∈l,g∈items)→0≤b7 most l:=by
  intro l
  induction l with
  | nil=>intro _;exact Up _
  | cons g r ih=>
   intro h
   have hg:=h g Vw
   obtain⟨x,hx⟩:=Wt.1 (hs g hg)
   obtain⟨_,_,o1,o2⟩:=Hq hm hx
   obtain⟨_,_,_,_,t1,t2⟩:=oF (hi g hg)
   have:=(H7 t1 t2 o1 o2).1
   have:=ih fun g' hg'=>h g' (Vv _ hg')
   simp only[b7];omega
 have split:∀ (a b:List ah),b7 most (a++b)=b7 most a+b7 most b:=by
  intro a b
  induction a with
  | nil=>simp[b7]
  | cons g r ih=>simp only[UL,b7,ih];omega
 intro i _
 have e:b7 most items=b7 most (items.take i)+b7 most (items.drop i):=by
  rw[← split,VN]
 have h1:=pos (items.take i) fun g hg=>VB hg
 have h2:=pos (items.drop i) fun g hg=>List.mem_of_mem_drop hg
 omega
theorem S5 {p:List UInt8} (hp:qQ p=true) {n:Nat} {items most:List ah} (hil:items.length≤100) (hgi:fT items=0) (hgm:fT most=0) (hs:∀ g∈items,(kS most g).isSome=true) (hT0:b7 most items≤500) (hT:(n:Int)+b7 most items≤10 ^ (17 - p.length)) (f:Nat) (hf:items.length<f):
 ∃ out,vD p n out (stS items items.length)∧(out.length:Int)=b7 most items∧iter (X:=gM) (β:=jW) f (p,(n:Int),[],items,(items.length:Int),0,items.map (jA most),()) gL=some (Sum.inr (out,())):=by
 obtain⟨hi,hi2⟩:=C0 hgi
 obtain⟨hm,_⟩:=C0 hgm
 have mono:=G9 hi hm hs
 refine bJ (Inv:=fun i X=>∃ out:List aa,vD p n out (stS items i)∧(out.length:Int)=b7 most (items.take i)∧X=((p,(n:Int),out,items,(items.length:Int),(i:Int),items.map (jA most),()):gM)) items.length (fun r=>∃ out,vD p n out (stS items items.length)∧(out.length:Int)=b7 most items∧r=some (Sum.inr (out,()))) ?_ ?_ f 0 _ ⟨[],⟨fun j q hq=>by simp at hq,rfl⟩,rfl,rfl⟩ (by omega) (by omega)
 ·rintro i _ again hii ⟨out,ho,hcnt,rfl⟩ ih
  have hy:items[i]? =some items[i]:=az hii
  have hmem:items[i]∈items:=Vh hii
  have hqi:=hi _ hmem
  obtain⟨k1,k2,k3⟩:=hi2 i _ hy
  obtain⟨x,hx⟩:=Wt.1 (hs _ hmem)
  obtain⟨_,_,o1,o2⟩:=Hq hm hx
  have ets:items.take (i+1)=items.take i++[items[i]]:=by rw[List.take_succ,hy];rfl
  have em:b7 most (items.take (i+1))=b7 most (items.take i)+pe (th items[i].2.2) (jA most items[i]):=by rw[ets,A5]
  have hmo:=(mono (i+1) (by omega)).2
  have hce:=RY hqi (jA most items[i])
  obtain⟨_,_,_,_,t1,t2⟩:=oF hqi
  have heach:(items.map (jA most))[i]? =some (jA most items[i]):=by rw[U8,hy];rfl
  have hpk:=fun (f:Nat) (hf:(th items[i].2.2).toNat<f)=>S6 hp (items:=items) heach o1 o2 hqi k1 k2 (S:=stS items i) (by rw[Mx];exact k3) (T:=b7 most items) hT0 hT ho (by omega) f hf
  unfold gL
  dsimp only
  rw[aG (by omega),bF,hy,Wq,uo hqi,Wq]
  dsimp only
  have hF:(th items[i].2.2).toNat<List.length p+(Int.natAbs (n:Int)+(List.length out+(Int.natAbs (i:Int)+(Int.natAbs (th items[i].2.2)+(List.length items+(Int.natAbs ((List.length items:Nat):Int)+(Int.natAbs (i:Int)+(List.length items[i].1+(List.length items[i].2.1+(Int.natAbs items[i].2.2.1+(Int.natAbs items[i].2.2.2+(List.length (items.map (jA most))+2)))))))))))):=by omega
  obtain⟨out',p1,p2,p3⟩:=hpk _ hF
  rw[p3,aU]
  dsimp only
  rw[ax (by omega) (by omega)]
  refine ih _ ⟨out', ?_,by omega,rfl⟩
  have e:stS items (i+1)=yS (stS items i) items[i] (th items[i].2.2):=by
   unfold yS
   rw[WO (by omega)]
   unfold stS
   rw[ets,List.map_append];rfl
  rw[e];exact p1
 ·rintro _ again ⟨out,ho,hcnt,rfl⟩
  unfold gL
  dsimp only
  rw[aN (by omega)]
  rw[VP] at hcnt
  exact⟨out,ho,hcnt,rfl⟩
theorem Tr {items most:List ah} (hil:items.length≤100) (hml:most.length≤100) (p:List UInt8) (n:Int) (f:Nat) (hf:2<f):
 (∃ e,e≠0∧iter (X:=iN) (β:=lH) f (items,most,p,n,((2:Nat):Int),0,[items,most],()) lG=some (Sum.inl ([],e,())))∨(fT items=0∧fT most=0∧iter (X:=iN) (β:=lH) f (items,most,p,n,((2:Nat):Int),0,[items,most],()) lG=some (Sum.inr (items,most,p,n,()))):=by
 refine bJ (Inv:=fun i X=>(0<i→fT items=0)∧(1<i→fT most=0)∧X=((items,most,p,n,((2:Nat):Int),(i:Int),[items,most],()):iN)) 2 (fun r=>(∃ e,e≠0∧r=some (Sum.inl ([],e,())))∨(fT items=0∧fT most=0∧r=some (Sum.inr (items,most,p,n,())))) ?_ ?_ f 0 _ ⟨nofun,nofun,rfl⟩ (by omega) (by omega)
 ·rintro i _ again hi ⟨h1,h2,rfl⟩ ih
  unfold lG
  dsimp only
  rw[aG (by omega),bn (by rw[T9];exact⟨WH (by omega),WH (by simp only[Vj,Vl];omega)⟩),UD]
  match i,hi with
  | 0,_=>
   rw[show ([items,most]:List (List ah))[0]? =some items from rfl,Wq,BJ items (by omega),Wq]
   dsimp only
   by_cases h:fT items=0
   ·rw[show (fT items != 0)=false by simpa using h,WC,ax (by omega) (by omega)]
    exact ih _ ⟨fun _=>h,by omega,rfl⟩
   ·rw[show (fT items != 0)=true by simpa using h,WD]
    exact .inl ⟨_,h,rfl⟩
  | 1,_=>
   rw[show ([items,most]:List (List ah))[1]? =some most from rfl,Wq,BJ most (by omega),Wq]
   dsimp only
   by_cases h:fT most=0
   ·rw[show (fT most != 0)=false by simpa using h,WC,ax (by omega) (by omega)]
    exact ih _ ⟨fun _=>h1 (by omega),fun _=>h,rfl⟩
   ·rw[show (fT most != 0)=true by simpa using h,WD]
    exact .inl ⟨_,h,rfl⟩
 ·rintro _ again ⟨h1,h2,rfl⟩
  unfold lG
  dsimp only
  rw[aN (by omega)]
  exact .inr ⟨h1 (by omega),h2 (by omega),rfl⟩
theorem Ol (items most:List ah) (p:List UInt8) (n:Int):
 (∃ e,e≠0∧qy items most p n=some ([],e,()))∨∃ (out:List aa) (m:Nat),items.length≤100∧fT items=0∧out.length≤500∧(out≠[]→m+out.length≤10 ^ (17 - p.length))∧vD p m out (stS items items.length)∧qy items most p n=some (out,0,()):=by
 unfold qy
 by_cases hil:100<items.length
 ·rw[aG (by omega)];exact .inl ⟨2,by decide,rfl⟩
 rw[aN (by omega)]
 by_cases hml:100<most.length
 ·rw[aG (by omega)];exact .inl ⟨2,by decide,rfl⟩
 rw[aN (by omega)]
 have h4:=fun f hf=>Tr (items:=items) (most:=most) (by omega) (by omega) p n f hf
 rw[show ((([items,most]:List (List ah)).length:Nat):Int)=((2:Nat):Int) from rfl]
 rcases h4 (List.length items+(List.length most+(List.length p+(Int.natAbs n+(Int.natAbs ((2:Nat):Int)+(Int.natAbs (0:Int)+(List.length ([items,most]:List (List ah))+2))))))) (by simp only[Vj,Vl];omega) with ⟨e,he,h⟩ | ⟨hgi,hgm,h⟩
 ·rw[h,eS];exact .inl ⟨e,he,rfl⟩
 rw[h,aU]
 dsimp only
 obtain⟨hi,_⟩:=C0 hgi
 obtain⟨hm,_⟩:=C0 hgm
 rcases Nr (by omega) (by omega) hi hm with ⟨hs,h⟩ | h
 rotate_left
 ·rw[h,Wq];exact .inl ⟨9,by decide,rfl⟩
 rw[h,Wq]
 dsimp only
 rw[show ((0:Int) != 0)=false from rfl,WC,IQ,Wq]
 dsimp only
 by_cases hl:DS p n (b7 most items)=0
 rotate_left
 ·rw[show (DS p n (b7 most items) != 0)=true by simpa using hl,WD]
  exact .inl ⟨_,hl,rfl⟩
 rw[show (DS p n (b7 most items) != 0)=false by simpa using hl,WC]
 by_cases h5:500<b7 most items
 ·rw[aG (by omega)];exact .inl ⟨2,by decide,rfl⟩
 rw[aN (by omega)]
 right
 by_cases h0:b7 most items=0
 ·-- nothing to pack
  have hnil:items=[]:=by
   cases items with
   | nil=>rfl
   | cons g r=>
    exfalso
    have:=(G9 hi hm hs 1 (by simp)).2
    obtain⟨x,hx⟩:=Wt.1 (hs g Vw)
    obtain⟨_,_,o1,o2⟩:=Hq hm hx
    obtain⟨_,_,_,_,t1,t2⟩:=oF (hi g Vw)
    have h3:=(H7 t1 t2 o1 o2).1
    have e:b7 most (List.take 1 (g::r))=pe (th g.2.2) (jA most g):=by simp[b7]
    omega
  subst hnil
  have e20:∀ f,0<f→iter (X:=gM) (β:=jW) f (p,n,[],[],((([]:List ah).length:Nat):Int),0,([]:List ah).map (jA most),()) gL=some (Sum.inr ([],())):=by
   intro f hf
   obtain⟨f,rfl⟩:∃ m,f=m+1:=⟨f - 1,by omega⟩
   rw[gy]
   unfold gL
   dsimp only
   rw[aN (by simp)]
  rw[e20 _ (by omega),aU]
  exact⟨[],0,by simp,hgi,by simp,fun h=>absurd rfl h,⟨fun j q hq=>by simp at hq,rfl⟩,rfl⟩
 ·unfold DS at hl
  rw[WO h0] at hl
  by_cases hf:vR p n=0
  rotate_left
  ·rw[WQ hf] at hl;exact absurd hl hf
  rw[WO (by simpa using hf)] at hl
  have hroom:¬(10:Int) ^ (17 - p.length) - n<b7 most items:=fun h=>by rw[WQ h] at hl;omega
  have hp:qQ p=true:=by
   unfold vR at hf
   split at hf
   ·assumption
   ·omega
  have hn:¬(n<0∨(10:Int) ^ (17 - p.length) - 1<n):=by
   unfold vR at hf
   rw[WQ hp] at hf
   intro h
   rw[WQ h] at hf;omega
  obtain⟨m,rfl⟩:∃ m:Nat,n=m:=⟨n.toNat,by omega⟩
  have h20:=fun f hf=>S5 hp (n:=m) (items:=items) (most:=most) (by omega) hgi hgm hs (by omega) (by omega) f hf
  obtain⟨out,p1,p2,p3⟩:=h20 (List.length p+(Int.natAbs (m:Int)+(List.length ([]:List aa)+(List.length items+(Int.natAbs ((List.length items:Nat):Int)+(Int.natAbs (0:Int)+(List.length (items.map (jA most))+2))))))) (by omega)
  rw[p3,aU]
  refine⟨out,m,by omega,hgi,by omega,fun _=> ?_,p1,rfl⟩
  have h3:((m+out.length:Nat):Int)≤((10 ^ (17 - p.length):Nat):Int):=by
   rw[Int.natCast_pow]
   show ((m+out.length:Nat):Int)≤10 ^ (17 - p.length)
   omega
  omega
end Go.Md
set_option linter.all false
set_option maxRecDepth 20000
namespace Go.Md
open Go.Dn
theorem nI {α:Type} {g:Nat→α→Int}:∀ {l:List α} {i:Nat},(∀ j y,l[j]? =some y→g (i+j) y=0)→dy g i l=0
 | [],_,_=>rfl
 | y::r,i,h=>by
  have h0:g i y=0:=by
   have:=h 0 y rfl
   rwa [VV] at this
  unfold dy
  rw[WQ h0]
  refine nI fun j z hz=> ?_
  have:=h (j+1) z hz
  rwa [show i+(j+1)=i+1+j by omega] at this
theorem KJ {p:List UInt8} {m:Nat} {out:List aa} {S:List (Tw×Int)} (h:vD p m out S) (hl:out.length≤500) (hr:out≠[]→m+out.length≤10 ^ (17 - p.length)):pT ([97],[111],1,out)=0:=by
 have hroom:∀ (j:Nat) (q:aa),out[j]? =some q→m+j<10 ^ (17 - p.length):=fun j q hq=>by
  have hj:=(U7.1 hq).1
  have:=hr (fun e=>by rw[e] at hj;cases hj)
  omega
 have asc:∀ (i j:Nat) (x y:aa),i<j→out[i]? =some x→out[j]? =some y→Op.bytesLess x.1 y.1=true:=fun i j x y hij hx hy=>
  Nf (h.each i x hx).1 (h.each j y hy).1 (hroom i x hx) (hroom j y hy) (by omega)
 have hp:dy (kU out) 0 out=0:=by
  refine nI fun i q hi=> ?_
  rw[Wo]
  obtain⟨e1,e2,e3,c,e4,e5,e6,e7,e8⟩:=h.each i q hi
  unfold kU
  rw[WO (by rw[e1.ok];decide),WO,WO (by rw[e3];decide)]
  ·rw[e4]
   unfold uZ
   rw[WO (show ¬100<[c].length by simp)]
   refine nI fun j y hy=> ?_
   rw[Wo]
   match j,hy with
   | 0,hy=>
    cases hy
    unfold DM
    rw[WO (by rw[e5];decide),WO (by rw[e6];decide),WO (by rw[e7];decide),WO (show ¬Hz [c] 0 c=true from Ue),WQ e8]
  ·unfold Bg
   cases i with
   | zero=>exact Ue
   | succ i=>
    dsimp only
    have hlt:=(U7.1 hi).1
    have hpi:out[i]? =some out[i]:=az (by omega)
    rw[hpi]
    dsimp only
    have hb:=asc i (i+1) _ _ (by omega) hpi hi
    rw[MP hb,Uf]
    have hne:q.1≠(out[i]).1:=fun e=>by rw[e,dJ] at hb;cases hb
    simp[hne]
 have hin:∀ (j:Nat) (q:aa),out[j]? =some q→q.2.1=[]:=fun j q hq=>(h.each j q hq).2.1
 have hpar:∀ i,par out i=none:=fun i=>by
  unfold par
  cases hq:out[i]? with
  | none=>rfl
  | some q=>dsimp only;rw[WQ (hin i q hq)]
 have n1z:He out=0:=nI fun i q hi=>by
  unfold n1
  rw[WO]
  rintro⟨h1,_⟩
  exact h1 (hin i q hi)
 have n2z:Hf out=0:=nI fun i q hi=>by
  unfold n2
  rw[WO]
  rintro⟨j,hj⟩
  rw[Wo] at hj
  have e:itp (par out) (j+1) i=none:=by
   simp only[itp,hpar,Option.bind_none]
  rw[e] at hj;cases hj
 have n3z:Qu out=0:=nI fun i q hi=>by
  unfold n3
  rw[Wo,JB (hpar i),WO (by decide)]
 unfold pT
 dsimp only
 rw[WO (show ¬dS [97]=false by decide),WO (show ¬dS [111]=false by decide),WO (by omega),WO (by omega),WO (by rw[hp];decide)]
 unfold Hg
 rw[WO (by rw[n1z];decide),WO (by rw[n2z];decide),n3z]
theorem wQ (p:Nat) (z:Int):few (p+1) (z*10)=few p z:=by
 show (if z*10 % 10=0 then few p (z*10 / 10) else _)=_
 rw[WQ (by omega),Int.mul_ediv_cancel _ (by decide)]
theorem R5 (z:Int):few 9 (z*1000000)=few 3 z:=by
 rw[show z*1000000=z*10*10*10*10*10*10 by omega,wQ,wQ,wQ,wQ,wQ,wQ]
theorem Rq {items:List ah} (hnd:(items.map bD).Nodup) {g:ah} (hg:g∈items):jj (bD g) (stS items items.length)=some (th g.2.2*1000000):=by
 unfold stS
 rw[VP]
 have hnd':((items.map fun g=>(bD g,th g.2.2*1000000)).map (·.1)).Nodup:=by
  rw[Vs];exact hnd
 exact L7 hnd' (p:=(bD g,th g.2.2*1000000)) (Vz.2 ⟨g,hg,rfl⟩)
theorem nodup_keys {items:List ah} (h:∀ (i:Nat) (y:ah),items[i]? =some y→bD y∉(items.take i).map bD):(items.map bD).Nodup:=by
 rw[List.nodup_iff_pairwise_ne,VJ]
 intro i j hi hj hij
 rw[Vk] at hi hj
 rw[Vg,Vg]
 intro e
 refine h j items[j] (az hj) ?_
 rw[← e]
 refine Vz.2 ⟨items[i], ?_,rfl⟩
 rw[Vy]
 exact⟨i,by rw[Ve hij];exact az hi⟩
theorem ES {items:List ah} (hi:GOk items) (hnd:(items.map bD).Nodup):∀ ks:List Tw,(∀ k∈ks,k∈items.map bD)→∃ L,pV (stS items items.length) ks=some L∧L.length=ks.length∧∀ x∈L,cA x.2.2∧∃ g∈items,bD x=bD g∧v9 x.2.2=th g.2.2*1000000
 | [],_=>⟨[],rfl,rfl,nofun⟩
 | k::r,h=>by
  obtain⟨L,l1,l2,l3⟩:=ES hi hnd r fun k' hk'=>h k' (Vv _ hk')
  obtain⟨g,hg,rfl⟩:=Vz.1 (h k Vw)
  obtain⟨_,_,_,_,t1,t2⟩:=oF (hi g hg)
  have hv:rI (stS items items.length) (bD g)=th g.2.2*1000000:=by
   unfold rI;rw[Rq hnd hg];rfl
  obtain⟨f1,f2,f3⟩:=tF 3 (th g.2.2)
  have hfu:(few 9 (th g.2.2*1000000)).1=(few 3 (th g.2.2)).1:=by rw[R5]
  have hb:(few 9 (th g.2.2*1000000)).1.natAbs≤1000000000000000:=by rw[hfu];omega
  have h0:(few 9 (th g.2.2*1000000)).1≠0:=fun e=>by
   rw[hfu] at e
   rw[e,Int.zero_mul] at f2
   omega
  refine⟨((bD g).1,(bD g).2,pQ (th g.2.2*1000000))::L, ?_,by simp[l2],fun x hx=> ?_⟩
  ·simp only[pV]
   rw[hv,WQ (show okD (th g.2.2*1000000)=true from WH hb),l1,Wv,WO h0]
  ·rcases Vu.1 hx with rfl | hx
   ·exact⟨MB hb,g,hg,rfl,Kf _⟩
   ·exact l3 x hx
theorem TA {d:ai} (h:qOk d false=true):v9 d=th d*1000000:=by
 obtain⟨h1,h2,h3,_⟩:=oF h
 unfold v9 th
 rw[Ur]
 congr 1
 have hk:d.2=0∨d.2=1∨d.2=2∨d.2=3:=by omega
 rcases hk with e | e | e | e<;>rw[e]<;>decide
end Go.Md
set_option linter.all false
set_option maxRecDepth 20000
namespace Go.Md
open Go.Dn
theorem R6 (l:List ah) (hl:l.length≤1000000) (g:ah) (h:∃ x∈l,bD x=bD g):∃ (k:Nat) (x:ah),l[k]? =some x∧bD x=bD g∧uF l g=some ((k:Int),()):=by
 obtain⟨x0,hx0,he0⟩:=h
 obtain⟨k0,hk0⟩:=Vy.1 hx0
 unfold uF zo
 have cmpk:∀ y:ah,(bif y.1==g.1 then some (y.2.1==g.2.1,()) else some (false,()))=some (decide (bD y=bD g),()):=by
  intro y
  have e:decide (bD y=bD g)=((y.1==g.1)&&(y.2.1==g.2.1)):=by
   rw[Uc,decide_eq_true_iff,T9,Wz,Wz]
   constructor
   ·intro h
    have h':(y.1,y.2.1)=(g.1,g.2.1):=h
    exact⟨(Prod.mk.inj h').1,(Prod.mk.inj h').2⟩
   ·rintro⟨h1,h2⟩;exact Prod.ext h1 h2
  rw[e]
  cases (y.1==g.1)<;>rfl
 have loop:∀ f,l.length<f→∃ (k:Nat) (x:ah),l[k]? =some x∧bD x=bD g∧iter f ((g.1,g.2.1,l,(l.length:Int),(0:Int),()):lK) tU=some (Sum.inl ((k:Int),())):=by
  intro f hf
  refine bJ (Inv:=fun i X=>i≤k0∧X=((g.1,g.2.1,l,(l.length:Int),(i:Int),()):lK)) l.length
   (fun r=>∃ (k:Nat) (x:ah),l[k]? =some x∧bD x=bD g∧r=some (Sum.inl ((k:Int),()))) ?_ ?_ f 0 _ ⟨Wp _,rfl⟩ (by omega) (by omega)
  ·rintro i _ again hi ⟨hb,rfl⟩ ih
   have hy:l[i]? =some l[i]:=az hi
   unfold tU
   dsimp only
   rw[aG (by omega),bF,hy,Wq,cmpk,Wq]
   dsimp only
   by_cases h:bD l[i]=bD g
   ·rw[WH h,WD]
    exact⟨i,l[i],hy,h,rfl⟩
   ·rw[WG h,WC,ax (by omega) (by omega)]
    refine ih _ ⟨?_,rfl⟩
    rcases V7 hb with e | e
    ·omega
    ·subst e
     rw[hy] at hk0
     exact absurd (by rw[Option.some.inj hk0];exact he0) h
  ·rintro _ again ⟨hb,rfl⟩
   have:=(U7.1 hk0).1
   omega
 obtain⟨k,x,h1,h2,h3⟩:=loop (g.1.length+(g.2.1.length+(List.length l+(Int.natAbs ((List.length l:Int))+(Int.natAbs (0:Int)+2))))) (by omega)
 refine⟨k,x,h1,h2, ?_⟩
 rw[h3,eS]
 rfl
theorem law_ParcelPacksHoldAll (items most:List ah) (p:List UInt8) (n:Int):gq items most p n=some (true,()):=by
 unfold gq
 rcases Ol items most p n with ⟨e,he,h⟩ | ⟨out,m,hil,hgi,hol,hr,ho,h⟩
 ·rw[h,Wq]
  dsimp only
  rw[show (e != 0)=true by simpa using he,WD,show (((([]:List aa).length:Nat):Int)==0)=true from rfl,WD,ET]
  rfl
 rw[h,Wq]
 dsimp only
 rw[show ((0:Int) != 0)=false from rfl,WC]
 have hadv:=KJ ho hol hr
 have hfit:Oi ([97],[111],1,out):=fun q hq=>by
  obtain⟨i,hi⟩:=Vy.1 hq
  have hlb:=(ho.each i q hi).1.ok
  unfold lbl at hlb
  simp only[T9,WI] at hlb
  have:=hlb.1
  omega
 obtain⟨hi,hi2⟩:=C0 hgi
 have hnd:=nodup_keys fun i y hy=>(hi2 i y hy).2.2
 have htS:Pt out []=stS items items.length:=by
  rw[← ho.sums]
  unfold Pt
  rfl
 have hkeys:(stS items items.length).map (·.1)=items.map bD:=by rw[Mx,VP]
 have hperm:=L3 (stS items items.length)
 rw[hkeys] at hperm
 obtain⟨L,l1,l2,l3⟩:=ES hi hnd (ksS (stS items items.length)) fun k hk=>hperm.mem_iff.1 hk
 have hgds:Iw (Pt out [])=(L,0):=by
  rw[htS]
  unfold Iw
  rw[l1]
 have htot:MC ([97],[111],1,out) []=(L,0):=by
  unfold MC
  rw[WO (by simpa using hadv),WQ (.inl rfl)]
  exact hgds
 have hLl:L.length=items.length:=by rw[l2,hperm.length_eq,Vk]
 rw[FP _ hfit,Wq,lE _ hfit,Wq,hadv,htot]
 dsimp only
 rw[show ((0:Int) != 0)=false from rfl,WC,WC,hLl,show ((items.length:Int) != (items.length:Int))=false by simp,WC]
 have loop:∀ f,items.length<f→iter f ((L,items,(items.length:Int),(0:Int),()):dG) eZ=some (Sum.inr ()):=by
  intro f hf
  refine bJ (Inv:=fun i X=>X=((L,items,(items.length:Int),(i:Int),()):dG)) items.length (fun r=>r=some (Sum.inr ())) ?_ ?_ f 0 _ rfl (by omega) (by omega)
  ·rintro i _ again hii rfl ih
   have hy:items[i]? =some items[i]:=az hii
   have hmem:items[i]∈items:=Vh hii
   have hqi:=hi _ hmem
   have hdi:=(oF hqi).1
   have hex:∃ x∈L,bD x=bD items[i]:=by
    have hkm:bD items[i]∈ksS (stS items items.length):=hperm.mem_iff.2 (Vz.2 ⟨_,hmem,rfl⟩)
    have key:∀ (ks:List Tw) (L:List ah),pV (stS items items.length) ks=some L→L.length=ks.length→∀ k∈ks,∃ x∈L,bD x=k:=by
     intro ks
     induction ks with
     | nil=>intro L _ _ k hk;cases hk
     | cons k0 r ih=>
      intro L hL hlen k hk
      simp only[pV] at hL
      split at hL
      ·cases hr':pV (stS items items.length) r with
       | none=>rw[hr'] at hL;cases hL
       | some l=>
        rw[hr',Wv] at hL
        have hL':=Option.some.inj hL
        obtain⟨_,_,hll⟩:=JN _ r l hr'
        by_cases h0:(few 9 (rI (stS items items.length) k0)).1=0
        ·rw[WQ h0] at hL'
         subst hL'
         simp only[Vj] at hlen
         omega
        ·rw[WO h0] at hL'
         subst hL'
         simp only[Vj] at hlen
         rcases Vu.1 hk with rfl | hk
         ·exact⟨_,Vw,rfl⟩
         ·obtain⟨x,hx,he⟩:=ih l hr' (by omega) k hk
          exact⟨x,Vv _ hx,he⟩
      ·cases hL
    exact key _ L l1 l2 _ hkm
   obtain⟨k,x,k1,k2,k3⟩:=R6 L (by omega) items[i] hex
   obtain⟨hdx,g,hg,hkg,hvx⟩:=l3 x (VA k1)
   have hgi':g=items[i]:=by
    have e:bD g=bD items[i]:=hkg.symm.trans k2
    obtain⟨j,hj⟩:=Vy.1 hg
    obtain⟨hjl,hje⟩:=U7.1 hj
    have hne:=VJ.1 (List.nodup_iff_pairwise_ne.1 hnd)
    rcases Wc j i with c | c | c
    ·exfalso
     have:=hne j i (by simpa using hjl) (by simpa using hii) c
     rw[Vg,Vg,hje] at this
     exact this e
    ·subst c;exact hje.symm
    ·exfalso
     have:=hne i j (by simpa using hii) (by simpa using hjl) c
     rw[Vg,Vg,hje] at this
     exact this e.symm
   have hveq:v9 x.2.2=v9 items[i].2.2:=by rw[hvx,hgi',TA hqi]
   unfold eZ
   dsimp only
   rw[aG (by omega),bF,hy,Wq,k3,Wq]
   dsimp only
   rw[aN (by omega),bF,k1,Wq,Wq,BR hdx hdi,BR hdi hdx,Wq,Wq]
   dsimp only
   rw[WH (show v9 x.2.2≤v9 items[i].2.2 by omega),WH (show v9 items[i].2.2≤v9 x.2.2 by omega),Uk,WC,WC,ax (by omega) (by omega)]
   exact ih _ rfl
  ·rintro _ again rfl
   unfold eZ
   dsimp only
   rw[aN (by omega)]
 rw[loop _ (by omega),aU,ET]
 rfl
end Go.Md
