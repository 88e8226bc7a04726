/-
  Plain facts: what is in parcels; the plain law is true of all data. No condition.
-/
import Derived.Test.YtfeonoiibclkiabGreatDoorYo
import Derived.Test.YtfeonoiibclkiabGreatDoorYu
set_option linter.all false
set_option linter.all false
set_option maxRecDepth 20000
namespace Go.Md
open Go.Dn
abbrev Tw:Type:=List UInt8×List UInt8
theorem Cq (a b:Tw):Ty.beq aG a b=decide (a=b):=by
 show (IK a.1 b.1&&IK a.2 b.2)=_
 by_cases h1:a.1=b.1
 ·by_cases h2:a.2=b.2
  ·rw[WH (Prod.ext h1 h2)]
   simp[IK,h1,h2]
  ·rw[WG (fun e=>h2 (by rw[e]))]
   simp[IK,h2]
 ·rw[WG (fun e=>h1 (by rw[e]))]
  simp[IK,h1]
def toW (p:Tw×Int):Tw×ai:=(p.1,W p.2)
def mK (k:Tw):List (Tw×Int)→Option Int
 | []=>none
 | p::r=>if k=p.1 then some p.2 else mK k r
def nr (k:Tw) (z:Int):List (Tw×Int)→List (Tw×Int)
 | []=>[(k,z)]
 | p::r=>if k=p.1 then (k,p.2+z)::r else p::nr k z r
theorem Q4 (k:Tw):∀ S:List (Tw×Int),b9 (k:=aG) (v:=aA) (S.map toW) k=(mK k S).map W
 | []=>rfl
 | p::r=>by
  refine (@Q5 aG aA (toW p) (r.map toW) k).trans ?_
  have ih:=Q4 k r
  simp only[mK]
  by_cases h:k=p.1
  ·rw[WN h,show Ty.beq aG k (toW p).1=true from (Cq _ _).trans (WH h)];rfl
  ·rw[WM h,show Ty.beq aG k (toW p).1=false from (Cq _ _).trans (WG h),WD];exact ih
theorem LN (k:Tw) (z:Int):∀ (S:List (Tw×Int)) (b:Int),mK k S=some b→jE (k:=aG) (v:=aA) (S.map toW) k (W (b+z))=(nr k z S).map toW
 | p::r,b,h=>by
  refine (@LL aG aA (toW p) (r.map toW) k _).trans ?_
  simp only[mK] at h
  simp only[nr]
  by_cases e:k=p.1
  ·rw[WN e] at h
   cases h
   rw[WN e,show Ty.beq aG k (toW p).1=true from (Cq _ _).trans (WH e)];rfl
  ·rw[WM e] at h
   rw[WM e,show Ty.beq aG k (toW p).1=false from (Cq _ _).trans (WG e),WD,LN k z r b h]
   rfl
theorem LM (k:Tw) (z:Int):∀ (S:List (Tw×Int)),mK k S=none→jE (k:=aG) (v:=aA) (S.map toW) k (W z)=(nr k z S).map toW
 | [],_=>rfl
 | p::r,h=>by
  refine (@LL aG aA (toW p) (r.map toW) k _).trans ?_
  simp only[mK] at h
  simp only[nr]
  by_cases e:k=p.1
  ·rw[WN e] at h;cases h
  ·rw[WM e] at h
   rw[WM e,show Ty.beq aG k (toW p).1=false from (Cq _ _).trans (WG e),WD,LM k z r h]
   rfl
theorem Q3 (k:Tw) (S:List (Tw×Int)) (M:List (Tw×ai)) (hM:M=S.map toW):b9 (k:=aG) (v:=aA) M k=(mK k S).map W:=by
 subst hM;exact Q4 k S
theorem PO (k:Tw) (z:Int) (S:List (Tw×Int)) (M:List (Tw×ai)) (hM:M=S.map toW) (b:Int) (h:mK k S=some b):jE (k:=aG) (v:=aA) M k (W (b+z))=(nr k z S).map toW:=by
 subst hM;exact LN k z S b h
theorem PN (k:Tw) (z:Int) (S:List (Tw×Int)) (M:List (Tw×ai)) (hM:M=S.map toW) (h:mK k S=none):jE (k:=aG) (v:=aA) M k (W z)=(nr k z S).map toW:=by
 subst hM;exact LM k z S h
def M24:Nat:=10 ^ 24
def Sm (n:Nat) (S:List (Tw×Int)):Prop:=∀ p∈S,p.2.natAbs≤n*M24
theorem Sm.add {n:Nat} {S:List (Tw×Int)} (h:Sm n S) {k:Tw} {z:Int} (hz:z.natAbs≤10 ^ 24):Sm (n+1) (nr k z S):=by
 have hz:z.natAbs≤M24:=hz
 have e:(n+1)*M24=n*M24+M24:=by rw[VZ,Wm]
 induction S with
 | nil=>
  intro p hp
  rcases VK.1 hp with rfl
  show z.natAbs≤_
  rw[e];omega
 | cons q r ih=>
  have h1:=h q VC
  intro p hp
  simp only[nr] at hp
  split at hp
  ·rcases VA.1 hp with rfl | hp
   ·show (q.2+z).natAbs≤_
    rw[e];omega
   ·have:=h p (VB _ hp)
    rw[e];omega
  ·rcases VA.1 hp with rfl | hp
   ·rw[e];omega
   ·exact ih (fun x hx=>h x (VB _ hx)) p hp
theorem FF {k:Tw}:∀ {S:List (Tw×Int)} {b:Int},mK k S=some b→(k,b)∈S
 | p::r,b,h=>by
  simp only[mK] at h
  split at h
  ·rename_i e
   cases h
   rw[e];exact VC
  ·exact VB _ (FF h)
theorem Sm.le {n:Nat} {S:List (Tw×Int)} (h:Sm n S) (hn:n≤1000000) {p:Tw×Int} (hp:p∈S):p.2.natAbs≤10 ^ 30:=by
 have h1:=h p hp
 have h2:=Wk M24 hn
 exact V8 h1 (V8 h2 (by unfold M24;decide))
theorem Pj {d:az} (h:eN d):(v9 d).natAbs≤10 ^ 24:=TR h
theorem Pc {d:az} (h:eN d):gm d 9=some (W (v9 d),()):=by
 have h1:=h.1;have h2:=h.2
 exact HJ d 9 (by omega) (by omega) (by omega) (by omega) (by omega)
theorem ML {n:Nat} (h:n≤10 ^ 40):n<4294967296 ^ 99:=by
 refine Wb h ?_
 exact Wc (show 10 ^ 40<4294967296 ^ 5 by decide) (Wo (by decide) (by decide))
theorem HF {n:Nat} {S:List (Tw×Int)} (hS:Sm n S) (hn:n≤1000000) (k:Tw) {d:az} (hd:eN d):dM (S.map toW) k d=some ((nr k (v9 d) S).map toW,()):=by
 have hv:=Pj hd
 obtain⟨M,hM⟩:∃ M:List (Tw×ai),M=S.map toW:=⟨_,rfl⟩
 rw[← hM]
 have hg:=Q3 k S M hM
 have hs:=fun b h=>PO k (v9 d) S M hM b h
 have hs0:=PN k (v9 d) S M hM
 unfold dM
 rw[hg]
 cases h:mK k S with
 | none=>
  show (Option.bind (nG 0) fun r1=>Option.bind (gm d 9) fun r2=>Option.bind (gN r1.1 r2.1) fun r3=>some (jE (k:=aG) (v:=aA) M k r3.1,()))=_
  rw[uf 0 (by omega) (by omega),Wt,Pc hd,Wt]
  dsimp only
  rw[yS 0 _ (ML (by omega)) (ML (by omega)),Wt]
  dsimp only
  rw[Int.zero_add,hs0 h]
  rfl
 | some b=>
  have hb:=hS.le hn (FF h)
  show (Option.bind (gm d 9) fun r4=>Option.bind (gN (W b) r4.1) fun r5=>some (jE (k:=aG) (v:=aA) M k r5.1,()))=_
  rw[Pc hd,Wt]
  dsimp only
  rw[yS b _ (ML (by omega)) (ML (by omega)),Wt]
  dsimp only
  rw[hs b h]
  rfl
theorem EC (k:Tw) (z:Int):∀ S:List (Tw×Int),(∀ p,p∈nr k z S→p.1=k∨∃ q∈S,q.1=p.1)
 | [],p,hp=>by rcases VK.1 hp with rfl;exact .inl rfl
 | q::r,p,hp=>by
  simp only[nr] at hp
  split at hp
  ·rcases VA.1 hp with rfl | hp
   ·exact .inl rfl
   ·exact .inr ⟨p,VB _ hp,rfl⟩
  ·rcases VA.1 hp with rfl | hp
   ·exact .inr ⟨p,VC,rfl⟩
   ·rcases EC k z r p hp with h | ⟨x,hx,h⟩
    ·exact .inl h
    ·exact .inr ⟨x,VB _ hx,h⟩
theorem OI (k:Tw) (z:Int):∀ S:List (Tw×Int),(S.map (·.1)).Nodup→((nr k z S).map (·.1)).Nodup
 | [],_=>by simp[nr]
 | q::r,h=>by
  rw[Vv,VN] at h
  simp only[nr]
  split
  ·rename_i e
   rw[Vv,VN,e];exact h
  ·rename_i e
   rw[Vv,VN]
   refine⟨fun hm=> ?_,OI k z r h.2⟩
   obtain⟨p,hp,e1⟩:=VF.1 hm
   rcases EC k z r p hp with h1 | ⟨x,hx,h1⟩
   ·exact e (by rw[← h1,e1])
   ·exact h.1 (VF.2 ⟨x,hx,h1.trans e1⟩)
def RZ (S:List (Tw×Int)):Int:=(S.map (·.2)).sum
theorem MP (k:Tw) (z:Int):∀ S:List (Tw×Int),(nr k z S).length≤S.length+1
 | []=>by simp[nr]
 | q::r=>by
  have ih:=MP k z r
  simp only[nr]
  split
  ·simp
  ·simp only[Vp];omega
structure oL (n:Nat) (S:List (Tw×Int)):Prop where
 sm:Sm n S
 nd:(S.map (·.1)).Nodup
 st:∀ p∈S,p.1.1.length≤1000∧p.1.2.length≤1000
 len:S.length≤n
theorem oL.nil:oL 0 []:=⟨fun _ h=>(by cases h),List.nodup_nil,fun _ h=>(by cases h),V7 _⟩
theorem oL.add {n:Nat} {S:List (Tw×Int)} (h:oL n S) {k:Tw} {z:Int} (hz:z.natAbs≤10 ^ 24) (hk:k.1.length≤1000∧k.2.length≤1000):oL (n+1) (nr k z S):=
 ⟨h.sm.add hz,OI k z S h.nd,fun p hp=>by
   rcases EC k z S p hp with e | ⟨q,hq,e⟩
   ·rw[e];exact hk
   ·rw[← e];exact h.st q hq,V8 (MP k z S) (Nat.succ_le_succ h.len)⟩
theorem OW {s:List UInt8} (h:rQ s=true):s.length≤1000:=by
 apply Decidable.byContradiction
 intro hc
 unfold rQ at h
 have e:gp s=some (false,()):=by
  unfold gp
  rw[aX (by omega),aZ (by omega)]
 rw[e] at h
 cases h
structure MN (c:aj):Prop where
 d:eN c.2.2.2
 n1:c.1.length≤1000
 n2:c.2.1.length≤1000
def Pn (l:List ah):Prop:=∀ p∈l,p.2.2.2.length≤100∧∀ c∈p.2.2.2,MN c
theorem M6 {l:List aj} (h:xO l=0):∀ c∈l,MN c:=by
 have hq:=(Ho h).2
 unfold xO at h
 split at h
 ·omega
 intro c hc
 have hd:=(hq c hc).dec
 obtain⟨i,hi⟩:=VE.1 hc
 have:=ku h i c hi
 unfold I7 at this
 split at this
 ·omega
 rename_i h1
 split at this
 ·omega
 rename_i h2
 exact⟨hd,OW (by simpa using h1),OW (by simpa using h2)⟩
theorem Gs {a:aq} (h:gx a=0):Pn a.2.2.2:=by
 intro p hp
 refine⟨(SE h p hp).n, ?_⟩
 unfold gx at h
 split at h
 ·omega
 split at h
 ·omega
 split at h
 ·omega
 split at h
 ·omega
 split at h
 ·omega
 have h3:fQ (nK a.2.2.2) 0 a.2.2.2=0:=by omega
 obtain⟨i,hi⟩:=VE.1 hp
 have:=ku h3 i p hi
 unfold nK at this
 split at this
 ·omega
 split at this
 ·omega
 split at this
 ·omega
 exact M6 this
def ck (c:aj):Tw:=(c.1,c.2.1)
def wA (S:List (Tw×Int)) (cs:List aj):List (Tw×Int):=cs.foldl (fun S c=>nr (ck c) (v9 c.2.2.2) S) S
theorem L1 (S:List (Tw×Int)) (cs:List aj) (c:aj):wA S (cs++[c])=nr (ck c) (v9 c.2.2.2) (wA S cs):=by
 unfold wA;rw[List.foldl_append];rfl
theorem oL.Px {n:Nat} {S:List (Tw×Int)} (h:oL n S):∀ cs:List aj,(∀ c∈cs,MN c)→oL (n+cs.length) (wA S cs):=by
 intro cs
 induction cs generalizing n S with
 | nil=>intro _;exact h
 | cons c r ih=>
  intro hc
  have h1:=hc c VC
  have:=ih (h.add (k:=ck c) (Pj h1.d) ⟨h1.n1,h1.n2⟩) (fun x hx=>hc x (VB _ hx))
  rw[Vp,show n+(r.length+1)=n+1+r.length by omega]
  exact this
def T7 (cs:List aj):Int:=(cs.map fun c=>v9 c.2.2.2).sum
end Go.Md
set_option linter.all false
set_option maxRecDepth 20000
namespace Go.Md
open Go.Dn
theorem F6 {a b:Tw}:gQ a b<0↔Op.bytesLess a.1 b.1=true∨(a.1=b.1∧Op.bytesLess a.2 b.2=true):=by
 unfold gQ
 by_cases h:Lib.compareBytes a.1 b.1=0
 ·rw[show (Lib.compareBytes a.1 b.1==0)=true by simpa using h,WE,oV]
  have e:=rN.1 h
  constructor
  ·intro h2;exact .inr ⟨e,h2⟩
  ·rintro (h2 | ⟨_,h2⟩)
   ·rw[e,di] at h2;cases h2
   ·exact h2
 ·rw[show (Lib.compareBytes a.1 b.1==0)=false by simpa using h,WD,oV]
  constructor
  ·exact .inl
  ·rintro (h2 | ⟨e,_⟩)
   ·exact h2
   ·exact absurd (rN.2 e) h
theorem L4 (a b:Tw):gQ a b<0∨a=b∨gQ b a<0:=by
 rw[F6,F6]
 rcases ER a.1 b.1 with h | h | h
 ·exact .inl (.inl h)
 ·rcases ER a.2 b.2 with g | g | g
  ·exact .inl (.inr ⟨h,g⟩)
  ·exact .inr (.inl (Prod.ext h g))
  ·exact .inr (.inr (.inr ⟨h.symm,g⟩))
 ·exact .inr (.inr (.inl h))
theorem RI {n:Nat} {S:List (Tw×Int)} (h:oL n S) (hn:n≤1000000):zB gQ (S.map toW)=true:=by
 have e:(S.map toW).map (·.1)=S.map (·.1):=by rw[Vw];rfl
 have h1:=h.len
 unfold zB
 rw[e]
 simp only[Us,WI,Vq,UO,UD]
 refine⟨by omega,fun p hp=> ?_,h.nd,fun x _ y _=> ?_⟩
 ·obtain⟨q,hq,rfl⟩:=VF.1 hp
  have:=h.st q hq
  show q.1.1.length≤_∧q.1.2.length≤_
  omega
 ·rcases L4 x y with h | h | h
  ·exact .inl h
  ·exact .inr (.inr h)
  ·exact .inr (.inl h)
def ksS (S:List (Tw×Int)):List Tw:=(S.map (·.1)).mergeSort fun x y=> !decide (gQ y x<0)
theorem Te (S:List (Tw×Int)):mJ gQ (S.map toW)=ksS S:=by
 have e:(S.map toW).map (·.1)=S.map (·.1):=by rw[Vw];rfl
 unfold mJ ksS
 rw[e]
theorem Nv (S:List (Tw×Int)):(ksS S).Perm (S.map (·.1)):=VL _ _
def tC (S:List (Tw×Int)) (k:Tw):Int:=(mK k S).getD 0
theorem Nz {S:List (Tw×Int)} (hnd:(S.map (·.1)).Nodup) {p:Tw×Int} (hp:p∈S):mK p.1 S=some p.2:=by
 induction S with
 | nil=>cases hp
 | cons q r ih=>
  rw[Vv,VN] at hnd
  simp only[mK]
  rcases VA.1 hp with rfl | hp
  ·rw[WN rfl]
  ·rw[WM (fun e=>hnd.1 (VF.2 ⟨p,hp,e⟩))]
   exact ih hnd.2 hp
def okD (z:Int):Bool:=decide ((few 9 z).1.natAbs≤1000000000000000)
def vJ (S:List (Tw×Int)):List Tw→Option (List bp)
 | []=>some []
 | k::r=>if okD (tC S k)=true then (vJ S r).map fun l=>if (few 9 (tC S k)).1=0 then l else (k.1,k.2,uF (tC S k))::l else none
def o8 (S:List (Tw×Int)):List bp×Int:=match vJ S (ksS S) with
 | some l=>(l,0)
 | none=>([],1)
theorem SD {z:Int} (h:z.natAbs≤10 ^ 30):Le 42 z:=V8 h (by decide)
theorem Td {n:Nat} {S:List (Tw×Int)} (h:oL n S) (hn:n≤1000000) {M:List (Tw×ai)} (hM:M=S.map toW) (ks:List Tw) (hks:ks.length≤1000000) (hsub:∀ k∈ks,∃ z,mK k S=some z):
 ∀ (r:List Tw) (i f:Nat) (acc:List bp),ks.drop i=r→i≤ks.length→r.length<f→acc.length≤i→
 iter (X:=jT) (β:=jS) f (acc,(ks.length:Int),(i:Int),ks,M,()) iq=
  some (match vJ S r with | some l=>Sum.inr (acc++l,M,()) | none=>Sum.inl ([],1,M,())):=by
 have PB:maxLen=9223372036854775807:=rfl
 intro r
 induction r with
 | nil=>
  intro i f acc hdr hi hf ha
  have:i=ks.length:=by
   have:=congrArg List.length hdr
   simp at this;omega
  subst this
  obtain⟨f,rfl⟩:∃ m,f=m+1:=⟨f - 1,by omega⟩
  rw[jf]
  unfold iq
  dsimp only
  rw[aX (by omega)]
  simp only[vJ,List.append_nil]
 | cons k r ih=>
  intro i f acc hdr hi hf ha
  have hki:ks[i]? =some k:=by
   have:=congrArg (·[0]?) hdr
   simpa [Vb] using this
  have hr':ks.drop (i+1)=r:=by
   have:=congrArg List.tail hdr
   simpa [List.tail_drop] using this
  have hlt:=(Ve.1 hki).1
  obtain⟨z,hz⟩:=hsub k (VG hki)
  have hv:tC S k=z:=by unfold tC;rw[hz];rfl
  have hzb:=h.sm.le hn (FF hz)
  obtain⟨f,rfl⟩:∃ m,f=m+1:=⟨f - 1,by simp at hf;omega⟩
  simp only[Vp] at hf
  have hg:Option.getD (α:=ai) (b9 (k:=aG) (v:=aA) M k) (false,[])=W z:=by
   rw[Q3 k S M hM,hz];rfl
  rw[jf]
  generalize hag:(fun y=>iter f y iq)=again
  unfold iq
  dsimp only
  rw[aZ (by omega),cM (by simp only[Us,WI];omega),UM,hki,Wt,hg,K9 (SD hzb),Wt]
  simp only[vJ]
  rw[hv]
  by_cases hok:(few 9 z).1.natAbs≤1000000000000000
  ·rw[WN hok,WN (show okD z=true from WH hok)]
   dsimp only
   rw[show ((0:Int) != 0)=false from rfl,WD,br (n:=(i:Int)+1) (by omega) (by omega), ← hag,show (i:Int)+1=((i+1:Nat):Int) by omega]
   have ht:(uF z).1=(few 9 z).1:=rfl
   rw[ht]
   by_cases h0:(few 9 z).1=0
   ·rw[h0,show ((0:Int) != 0)=false from rfl,WD]
    refine (ih (i+1) f acc hr' (by omega) (by omega) (by omega)).trans ?_
    cases vJ S r with
    | none=>rfl
    | some l=>rfl
   ·rw[show ((few 9 z).1 != 0)=true by simpa using h0,WE,cM (by rw[Us];exact⟨WH (by omega),WH (by omega)⟩)]
    refine (ih (i+1) f _ hr' (by omega) (by omega) (by simp;omega)).trans ?_
    cases vJ S r with
    | none=>rfl
    | some l=>
     show some (Sum.inr ((acc++[(k.1,k.2,uF z)])++l,M,()))=some (Sum.inr (acc++(if (few 9 z).1=0 then l else (k.1,k.2,uF z)::l),M,()))
     rw[WM h0,UR]
     rfl
  ·rw[WM hok,WM (show ¬okD z=true from fun e=>hok (WT e))]
   rfl
theorem Ju {n:Nat} {S:List (Tw×Int)} (h:oL n S) (hn:n≤1000000):oo (S.map toW)=some ((o8 S).1,(o8 S).2,S.map toW,()):=by
 have hk:=RI h hn
 have he:=Te S
 have hp:=Nv S
 have hl:=h.len
 have hkl:(ksS S).length≤1000000:=by rw[hp.length_eq,Vq];omega
 obtain⟨M,hM⟩:∃ M:List (Tw×ai),M=S.map toW:=⟨_,rfl⟩
 rw[← hM] at hk he ⊢
 unfold oo
 rw[cM hk,he]
 have loop:=Td h hn hM (ksS S) hkl (fun k hk=>by
  obtain⟨p,hp',rfl⟩:=VF.1 (hp.mem_iff.1 hk)
  exact⟨_,Nz h.nd hp'⟩) (ksS S) 0
 have loop':∀ f,(ksS S).length<f→iter (X:=jT) (β:=jS) f ([],((ksS S).length:Int),0,ksS S,M,()) iq=_:=fun f hf=>loop f [] rfl (Wr _) hf (V7 _)
 rw[loop' _ (by rw[Int.natAbs_natCast];omega)]
 unfold o8
 cases vJ S (ksS S) with
 | none=>rfl
 | some l=>rfl
theorem Sk {n:Nat} {S:List (Tw×Int)} (hS:oL n S) (hn:n+100≤1000000) (t:List UInt8) (l l2:List ah) (c1 c2:Int) (a1 a2:List UInt8) (a3:Int) (cs:List aj) (hcs:cs.length≤100) (hc:∀ c∈cs,MN c) (f:Nat) (hf:cs.length<f) {M:List (Tw×ai)} (hM:M=S.map toW) {M':List (Tw×ai)} (hM':M'=(wA S cs).map toW):
 iter (X:=jR) (β:=nM) f (t,l,c1,c2,cs,(cs.length:Int),0,a1,a2,a3,l2,M,()) nL=some (Sum.inr (t,l,c1,c2,a1,a2,a3,l2,M',())):=by
 refine cn (Inv:=fun i X=>∃ M1,M1=(wA S (cs.take i)).map toW∧X=((t,l,c1,c2,cs,(cs.length:Int),(i:Int),a1,a2,a3,l2,M1,()):jR)) cs.length (fun r=>r=some (Sum.inr (t,l,c1,c2,a1,a2,a3,l2,M',()))) ?_ ?_ f 0 _ ⟨M,hM,rfl⟩ (by omega) (by omega)
 ·rintro i _ again hi ⟨M1,hM1,rfl⟩ ih
  have hy:cs[i]? =some cs[i]:=aK hi
  have hm:cs[i]∈cs:=Vn hi
  have ets:cs.take (i+1)=cs.take i++[cs[i]]:=by rw[List.take_succ,hy];rfl
  have hSi:oL (n+(cs.take i).length) (wA S (cs.take i)):=hS.Px _ fun c hc'=>hc c (VH hc')
  have hti:(cs.take i).length≤100:=by rw[Vt];omega
  have hadd:=HF hSi.sm (by omega) (ck cs[i]) (hc _ hm).d
  rw[← hM1] at hadd
  unfold nL
  dsimp only
  rw[aZ (by omega),bN,hy,Wt]
  refine (show _→_ from fun h=>h) ?_
  rw[show ((cs[i].1,cs[i].2.1):aD)=ck cs[i] from rfl,hadd,Wt]
  dsimp only
  rw[br (n:=(i:Int)+1) (by omega) (by omega)]
  exact ih _ ⟨_,by rw[ets,L1],rfl⟩
 ·rintro _ again ⟨M1,hM1,rfl⟩
  unfold nL
  dsimp only
  rw[aX (by omega)]
  rw[List.take_length] at hM1
  rw[hM1, ← hM']
def u7 (B:Nat→Bool) (l:List ah):Nat→List (Tw×Int)
 | 0=>[]
 | i+1=>if B i=true then wA (u7 B l i) ((l[i]?).map (·.2.2.2)).get! else u7 B l i
theorem Cm {B:Nat→Bool} {l:List ah} (hl:Pn l):∀ i,i≤l.length→oL (100*i) (u7 B l i)
 | 0,_=>oL.nil
 | i+1,hi=>by
  have ih:=Cm (B:=B) hl i (by omega)
  have hy:l[i]? =some l[i]:=aK (by omega)
  have hp:=hl l[i] (Vn (by omega))
  simp only[u7]
  split
  ·rw[hy]
   have:=ih.Px l[i].2.2.2 hp.2
   exact⟨fun p h=>V8 (this.sm p h) (Wk _ (by omega)),this.nd,this.st,by have:=this.len;show (wA _ l[i].2.2.2).length≤_;omega⟩
  ·exact⟨fun p h=>V8 (ih.sm p h) (Wk _ (by omega)),ih.nd,ih.st,by have:=ih.len;omega⟩
theorem SX {a:aq} (hl:a.2.2.2.length≤500) (hp:Pn a.2.2.2) (t:List UInt8) (B:Nat→Bool) (hB:∀ i,i<a.2.2.2.length→iN a (i:Int) t=some (B i,())) {M':List (Tw×ai)} (hM':M'=(u7 B a.2.2.2 a.2.2.2.length).map toW) (f:Nat) (hf:a.2.2.2.length<f):
 iter (X:=kX) (β:=pG) f (t,a.2.2.2,(a.2.2.2.length:Int),0,a.1,a.2.1,a.2.2.1,a.2.2.2,[],()) pF=some (Sum.inr (M',())):=by
 refine cn (Inv:=fun i X=>∃ M1,M1=(u7 B a.2.2.2 i).map toW∧X=((t,a.2.2.2,(a.2.2.2.length:Int),(i:Int),a.1,a.2.1,a.2.2.1,a.2.2.2,M1,()):kX)) a.2.2.2.length (fun r=>r=some (Sum.inr (M',()))) ?_ ?_ f 0 _ ⟨[],rfl,rfl⟩ (by omega) (by omega)
 ·rintro i _ again hi ⟨M1,hM1,rfl⟩ ih
  have hy:a.2.2.2[i]? =some a.2.2.2[i]:=aK hi
  have hpi:=hp a.2.2.2[i] (Vn hi)
  have hSi:=Cm (B:=B) hp i (by omega)
  have hBi:iN (a.1,a.2.1,a.2.2.1,a.2.2.2) (i:Int) t=some (B i,()):=hB i hi
  unfold pF
  dsimp only
  rw[aZ (by omega),bN,hy,Wt,hBi,Wt]
  dsimp only
  cases hb:B i with
  | false=>
   rw[Bool.not_false,WE,br (n:=(i:Int)+1) (by omega) (by omega)]
   refine ih _ ⟨M1, ?_,rfl⟩
   rw[hM1]
   simp only[u7]
   rw[hb];rfl
  | true=>
   rw[UB,WD]
   obtain⟨M2,hM2⟩:∃ M2:List (Tw×ai),M2=(wA (u7 B a.2.2.2 i) a.2.2.2[i].2.2.2).map toW:=⟨_,rfl⟩
   have h2:=fun (f:Nat) (hf:a.2.2.2[i].2.2.2.length<f)=>Sk hSi (by omega) t a.2.2.2 a.2.2.2 (a.2.2.2.length:Int) (i:Int) a.1 a.2.1 a.2.2.1 a.2.2.2[i].2.2.2 hpi.1 hpi.2 f hf hM1 hM2
   rw[h2 _ (V9 _ (V9 _ (V9 _ (V9 _ (Wa (by with_reducible repeat (first | exact Ws | refine V9 _ ?_))))))),bD]
   dsimp only
   rw[br (n:=(i:Int)+1) (by omega) (by omega)]
   refine ih _ ⟨M2, ?_,rfl⟩
   rw[hM2]
   simp only[u7]
   rw[hb,hy];rfl
 ·rintro _ again ⟨M1,hM1,rfl⟩
  unfold pF
  dsimp only
  rw[aX (by omega)]
  rw[hM1, ← hM']
theorem Ob {a:aq} (hok:ug a) {t:List UInt8} (ht:t=[]∨(fG (fun x:ah=>x.1) t a.2.2.2).isSome=true):∀ i,i<a.2.2.2.length→iN a (i:Int) t=some (ym a.2.2.2 t i,()):=fun i hi=>by
 by_cases h0:t=[]
 ·subst h0;rfl
 ·cases hT:fG (fun x:ah=>x.1) t a.2.2.2 with
  | none=>rw[hT] at ht;simp[h0] at ht
  | some T=>rw[MS hok hi h0 hT];unfold ym;rw[WM h0,hT]
def xo (l:List ah) (t:List UInt8):List (Tw×Int):=u7 (ym l t) l l.length
noncomputable def N1 (a:aq) (t:List UInt8):List bp×Int:=if gx a≠0 then ([],gx a) else if t=[]∨(fG (fun x:ah=>x.1) t a.2.2.2).isSome=true then o8 (xo a.2.2.2 t) else ([],9)
theorem IF (a:aq) (hf:Bl a) (t:List UInt8):ux a t=some ((N1 a t).1,(N1 a t).2,()):=by
 unfold ux N1
 by_cases h:gx a=0
 rotate_left
 ·rw[WN h]
  unfold jU
  rw[gJ a hf,Wt]
  dsimp only
  rw[show (gx a != 0)=true by simpa using h,WE,Wt]
  dsimp only
  rw[show (gx a != 0)=true by simpa using h,WE]
 rw[WM (by simpa using h),JJ a hf h t,Wt]
 dsimp only
 have hok:=rM h
 by_cases ht:t=[]∨(fG (fun x:ah=>x.1) t a.2.2.2).isSome=true
 rotate_left
 ·rw[WM ht,WM ht];rfl
 rw[WN ht,WN ht,show ((0:Int) != 0)=false from rfl,WD]
 obtain⟨M,hM⟩:∃ M:List (Tw×ai),M=(u7 (ym a.2.2.2 t) a.2.2.2 a.2.2.2.length).map toW:=⟨_,rfl⟩
 have h2:=SX hok.len (Gs h) t (ym a.2.2.2 t) (Ob hok ht) hM
 rw[h2 _ (V9 _ (Wa (by with_reducible repeat (first | exact Ws | refine V9 _ ?_)))),bD]
 dsimp only
 have hS:=Cm (B:=ym a.2.2.2 t) (Gs h) a.2.2.2.length (V7 _)
 have hl:=hok.len
 rw[hM,Ju hS (by omega),Wt]
 rfl
end Go.Md
set_option linter.all false
set_option maxRecDepth 20000
namespace Go.Md
open Go.Dn
theorem Rx {S:List (Tw×Int)} (hnd:(S.map (·.1)).Nodup):((S.map (·.1)).map (tC S)).sum=RZ S:=by
 unfold RZ
 rw[Vw]
 congr 1
 refine Vu fun p hp=> ?_
 show tC S p.1=p.2
 unfold tC
 rw[Nz hnd hp];rfl
theorem Rg {a b:List Int} (h:a.Perm b):a.sum=b.sum:=by
 induction h with
 | nil=>rfl
 | cons x _ ih=>simp only[List.sum_cons,ih]
 | swap x y l=>simp only[List.sum_cons];omega
 | trans _ _ ih1 ih2=>exact ih1.trans ih2
theorem LA (S:List (Tw×Int)):∀ (ks:List Tw) (L:List bp),vJ S ks=some L→IM L=(ks.map (tC S)).sum∧(∀ x∈L,eN x.2.2)∧L.length≤ks.length
 | [],L,h=>by cases h;exact⟨rfl,fun x hx=>(by cases hx),V7 _⟩
 | k::r,L,h=>by
  simp only[vJ] at h
  split at h
  ·rename_i hok
   cases hr:vJ S r with
   | none=>rw[hr] at h;cases h
   | some l=>
    rw[hr] at h
    obtain⟨i1,i2,i3⟩:=LA S r l hr
    have hL:L=if (few 9 (tC S k)).1=0 then l else (k.1,k.2,uF (tC S k))::l:=(Option.some.inj h).symm
    rw[hL,Vv,List.sum_cons]
    by_cases h0:(few 9 (tC S k)).1=0
    ·rw[WN h0]
     have hz:tC S k=0:=by
      have:=(Gi 9 (tC S k)).2.1
      rw[h0,Int.zero_mul] at this
      exact this.symm
     rw[hz]
     exact⟨by omega,i2,by simp only[Vp];omega⟩
    ·rw[WM h0]
     refine⟨?_,fun x hx=> ?_,by simp only[Vp];omega⟩
     ·show v9 (uF (tC S k))+IM l=_
      rw[Rw,i1]
     ·rcases VA.1 hx with rfl | hx
      ·exact R2 (WT hok)
      ·exact i2 x hx
  ·cases h
theorem Su {n:Nat} {S:List (Tw×Int)} (h:oL n S) (h0:(o8 S).2=0):IM (o8 S).1=RZ S∧(∀ x∈(o8 S).1,eN x.2.2)∧(o8 S).1.length≤n:=by
 unfold o8 at*
 cases hg:vJ S (ksS S) with
 | none=>rw[hg] at h0;cases h0
 | some L=>
  obtain⟨i1,i2,i3⟩:=LA S _ L hg
  have hp:=Nv S
  refine⟨?_,i2, ?_⟩
  ·show IM L=_
   rw[i1,Rg (hp.map (tC S)),Rx h.nd]
  ·show L.length≤n
   have h1:=h.len
   have h2:=hp.length_eq
   rw[Vq] at h2
   omega
theorem PA (S:List (Tw×Int)):(o8 S).2=0∨(o8 S).2=1:=by
 unfold o8
 cases vJ S (ksS S) with
 | none=>exact .inr rfl
 | some L=>exact .inl rfl
def cv (l:List ah) (i:Nat):Int:=T7 (((l[i]?).map (·.2.2.2)).get!)
theorem Pf {a:aq} (h:gx a=0) (t:List UInt8):oL 50000 (xo a.2.2.2 t):=by
 have hl:=(rM h).len
 have h1:=Cm (B:=ym a.2.2.2 t) (Gs h) a.2.2.2.length (V7 _)
 exact⟨fun p hp=>V8 (h1.sm p hp) (Wk _ (by omega)),h1.nd,h1.st,V8 h1.len (by omega)⟩
end Go.Md
set_option linter.all false
set_option maxRecDepth 20000
namespace Go.Md
open Go.Dn
theorem MW (l:List au) (t:List UInt8) (hl:l.length<1000000000) (hs:Asc (·.1) l):
 ∃ i:Nat,bZ l t ()=some ((i:Int),(fG (·.1) t l).isSome,())∧∀ k,fG (·.1) t l=some k→i=k:=by
 unfold bZ
 have loop:∀ f,l.length<f→∃ i:Nat,iter f ((l,t,(),(l.length:Int),(0:Int),(l.length:Int),()):bU) dN=some (Sum.inr (l,t,(),(l.length:Int),(i:Int),()))∧i≤l.length∧(∀ k x,l[k]? =some x→k<i→Op.bytesLess x.1 t=true)∧∀ k x,l[k]? =some x→i≤k→Op.bytesLess x.1 t=false:=by
  intro f hf
  refine xU (Inv:=fun X=>∃ i j:Nat,X=((l,t,(),(l.length:Int),(i:Int),(j:Int),()):bU)∧i≤j∧j≤l.length∧(∀ k x,l[k]? =some x→k<i→Op.bytesLess x.1 t=true)∧∀ k x,l[k]? =some x→j≤k→Op.bytesLess x.1 t=false)
   (fun X=>(X.2.2.2.2.2.1 - X.2.2.2.2.1).toNat)
   (fun _ r=>∃ i:Nat,r=some (Sum.inr (l,t,(),(l.length:Int),(i:Int),()))∧i≤l.length∧(∀ k x,l[k]? =some x→k<i→Op.bytesLess x.1 t=true)∧∀ k x,l[k]? =some x→i≤k→Op.bytesLess x.1 t=false) ?_ f _ ⟨0,l.length,rfl,by omega,by omega,fun _ _ _ h=>absurd h (Wl _),fun k x hk hle=>by have:=(Ve.1 hk).1;omega⟩ (by dsimp only;omega)
  rintro _ again ⟨i,j,rfl,hij,hj,h1,h2⟩ ih
  dsimp only at ih
  unfold dN
  dsimp only
  by_cases hlt:i<j
  ·rw[aZ (by omega)]
   have em:w64 (Int.fdiv (bI (w64 ((i:Int)+(j:Int)))) (2 ^ 1))=(((i+j) / 2:Nat):Int):=by
    rw[br (n:=(i:Int)+(j:Int)) (by omega) (by omega),cO (by omega) (by omega),UF _ (by omega),br (by omega) (by omega)]
    omega
   rw[em]
   have hm:(i+j) / 2<l.length:=by omega
   have hy:l[(i+j) / 2]? =some l[(i+j) / 2]:=aK hm
   have hmi:i≤(i+j) / 2∧(i+j) / 2<j:=by omega
   generalize (i+j) / 2=m at*
   generalize l[m]=y at hy
   rw[bN,hy,Wt]
   show ∃ i,Option.bind (Option.bind (some (Lib.compareBytes y.1 t,())) fun r1=>some (r1.1,())) _=_∧_
   rw[Wt,Wt]
   dsimp only
   by_cases hc:Lib.compareBytes y.1 t<0
   ·rw[aZ hc,br (by omega) (by omega)]
    refine ih _ ⟨m+1,j,rfl,by omega,hj,fun k x hk hkm=> ?_,h2⟩ (by dsimp only;omega)
    rcases We.1 hkm with h | h
    ·have:=hs k m x y h hk hy
     exact iS this (oV.1 hc)
    ·subst h;rw[hy] at hk;cases hk;exact oV.1 hc
   ·rw[aX hc]
    refine ih _ ⟨i,m,rfl,by omega,by omega,h1,fun k x hk hkm=> ?_⟩ (by dsimp only;omega)
    have hc':Op.bytesLess y.1 t=false:=by
     cases h:Op.bytesLess y.1 t with
     | false=>rfl
     | true=>exact absurd (oV.2 h) hc
    rcases Nat.lt_or_eq_of_le hkm with h | h
    ·cases hx:Op.bytesLess x.1 t with
     | false=>rfl
     | true=>rw[iS (hs m k y x h hy hk) hx] at hc';cases hc'
    ·subst h;rw[hy] at hk;cases hk;exact hc'
  ·rw[aX (by omega)]
   have:i=j:=by omega
   subst this
   exact⟨i,rfl,hj,h1,h2⟩
 obtain⟨i,h1,h2,h3,h4⟩:=loop (List.length l+(List.length t+(Int.natAbs ((List.length l:Int))+(Int.natAbs (0:Int)+(Int.natAbs ((List.length l:Int))+2))))) (by omega)
 refine⟨i, ?_,fun k hk=> ?_⟩
 ·rw[h1,bD]
  dsimp only
  by_cases hi:i<l.length
  ·have hy:l[i]? =some l[i]:=aK hi
   generalize l[i]=y at hy
   rw[aZ (by omega),bN,hy,Wt]
   show Option.bind (Option.bind (some (Lib.compareBytes y.1 t,())) fun r1=>some (r1.1,())) _=_
   rw[Wt,Wt]
   congr 3
   by_cases he:y.1=t
   ·rw[Gm hs hy he,rN.2 he];rfl
   ·have hne:¬ Lib.compareBytes y.1 t=0:=fun h=>he (rN.1 h)
    rw[show (Lib.compareBytes y.1 t==0)=false by simpa using hne]
    cases hx:fG (·.1) t l with
    | none=>rfl
    | some k=>
     exfalso
     obtain⟨x,k1,k2⟩:=kL hx
     rcases Wg k i with h | h | h
     ·have:=h3 k x k1 h;rw[k2,di] at this;cases this
     ·subst h;rw[hy] at k1;cases k1;exact he k2
     ·have:=hs i k y x h hy k1
      dsimp only at this
      rw[k2,h4 i y hy (V7 _)] at this;cases this
  ·rw[aX (by omega)]
   congr 3
   cases hx:fG (·.1) t l with
   | none=>rfl
   | some k=>
    exfalso
    obtain⟨x,k1,k2⟩:=kL hx
    have:=h3 k x k1 (by have:=(Ve.1 k1).1;omega)
    rw[k2,di] at this;cases this
 ·obtain⟨x,k1,k2⟩:=kL hk
  rcases Wg k i with h | h | h
  ·have:=h3 k x k1 h;rw[k2,di] at this;cases this
  ·exact h.symm
  ·have hy:l[i]? =some (l[i]'(by have:=(Ve.1 k1).1;omega)):=aK _
   have:=hs i k _ x h hy k1
   dsimp only at this
   rw[k2,h4 i _ hy (V7 _)] at this;cases this
def aR (l:List ah):List au:=(l.filter fun p=>p.2.1==[]).map fun p=>(p.1,true,[],[])
theorem sk (l:List ah):(aR l).length≤l.length:=by
 unfold aR
 rw[Vq]
 exact List.length_filter_le _ _
theorem Qd (l:List ah) (y:ah):aR (l++[y])=if (y.2.1==[])=true then aR l++[(y.1,true,[],[])] else aR l:=by
 unfold aR
 rw[U3]
 cases h:(y.2.1==[]) with
 | true=>rw[List.filter_cons_of_pos (by exact h),List.filter_nil,List.map_append,WN rfl];rfl
 | false=>rw[List.filter_cons_of_neg (by rw[h];simp),List.filter_nil,List.append_nil];simp
theorem yb {l:List ah} {s:au} (h:s∈aR l):∃ p,p∈l∧p.2.1=[]∧s=(p.1,true,[],[]):=by
 unfold aR at h
 obtain⟨p,hp,rfl⟩:=VF.1 h
 obtain⟨h1,h2⟩:=List.mem_filter.1 hp
 exact⟨p,h1,by simpa using h2,rfl⟩
theorem Q2 {l:List ah} {p:ah} (h:p∈l) (h0:p.2.1=[]):((p.1,true,[],[]):au)∈aR l:=by
 unfold aR
 exact VF.2 ⟨p,List.mem_filter.2 ⟨h,by rw[h0];rfl⟩,rfl⟩
theorem S7 {α:Type} {key:α→List UInt8} {l:List α}:Asc key l↔l.Pairwise fun x y=>Op.bytesLess (key x) (key y)=true:=by
 constructor
 ·intro h
  exact VP.2 fun i j hi hj hij=>h i j _ _ hij (aK hi) (aK hj)
 ·intro h i j x y hij hx hy
  obtain⟨hi,rfl⟩:=Ve.1 hx
  obtain⟨hj,rfl⟩:=Ve.1 hy
  exact VP.1 h i j hi hj hij
theorem F1 {l:List ah} (h:Asc (·.1) l):Asc (·.1) (aR l):=by
 rw[S7] at*
 unfold aR
 exact (h.filter _).map _ fun a b hab=>hab
theorem Qi (a:aq) (hl:a.2.2.2.length*72≤140737488355328):v8 a=some (aR a.2.2.2,()):=by
 unfold v8
 obtain⟨a1,a2,a3,l⟩:=a
 dsimp only at*
 have PB:maxLen=9223372036854775807:=rfl
 have loop:∀ f,l.length<f→iter f (([],l,(l.length:Int),(0:Int),()):qy) uy=some (Sum.inr (aR l,())):=by
  intro f hf
  refine cn (Inv:=fun i X=>X=((aR (l.take i),l,(l.length:Int),(i:Int),()):qy)) l.length (fun r=>r=some (Sum.inr (aR l,()))) ?_ ?_ f 0 _ rfl (by omega) (by omega)
  ·rintro i _ again hi rfl ih
   have hy:l[i]? =some l[i]:=aK hi
   have ets:l.take (i+1)=l.take i++[l[i]]:=by rw[List.take_succ,hy];rfl
   have hsl:=sk (l.take i)
   rw[Vt] at hsl
   have es:=Qd (l.take i) l[i]
   rw[← ets] at es
   unfold uy
   dsimp only
   rw[aZ (by omega),bN,hy,Wt,br (by omega) (by omega)]
   cases h:(l[i].2.1==[]) with
   | true=>
    rw[WN h] at es
    rw[WE,cM (by rw[Us];exact⟨WH (by omega),WH (by omega)⟩)]
    exact ih _ (by rw[es];rfl)
   | false=>
    rw[WM (by rw[h];simp)] at es
    rw[WD]
    exact ih _ (by rw[es];rfl)
  ·rintro _ again rfl
   unfold uy
   dsimp only
   rw[aX (by omega),List.take_length]
 rw[loop _ (V9 _ (Wa (by with_reducible repeat (first | exact Ws | refine V9 _ ?_)))),bD]
theorem PJ {a:aq} (h:gx a=0):∀ p∈a.2.2.2,lbl p.1=true:=by
 unfold gx at h
 split at h
 ·omega
 split at h
 ·omega
 split at h
 ·omega
 split at h
 ·omega
 split at h
 ·omega
 have h3:fQ (nK a.2.2.2) 0 a.2.2.2=0:=by omega
 intro p hp
 obtain⟨i,hi⟩:=VE.1 hp
 have:=ku h3 i p hi
 unfold nK at this
 split at this
 ·omega
 rename_i h1
 simpa using h1
theorem Ta (s:List UInt8) (b:Bool) (f:Nat) (hf:2<f):iter f (((2:Nat):Int),((0:Nat):Int),s,b,[],[],[[],[]],()) lV=some (Sum.inr (s,b,[],[],())):=by
 refine cn (Inv:=fun i X=>X=((((2:Nat):Int),(i:Int),s,b,[],[],[[],[]],()):lW)) 2 (fun r=>r=some (Sum.inr (s,b,[],[],()))) ?_ ?_ f 0 _ rfl (by omega) (by omega)
 ·rintro i _ again hi rfl ih
  have hc:xO []=0:=rfl
  have hg:([[],[]]:List (List aj))[i]? =some []:=by
   match i,hi with
   | 0,_=>rfl
   | 1,_=>rfl
  unfold lV
  dsimp only
  rw[aZ (by omega),cM (by rw[Us];exact⟨WH (by omega),WH (by simp only[Vp,Vr];omega)⟩),UM,hg,Wt,s9,Wt,hc]
  dsimp only
  rw[show ((0:Int) != 0)=false from rfl,WD,br (by omega) (by omega)]
  exact ih _ rfl
 ·rintro _ again rfl
  unfold lV
  dsimp only
  rw[aX (by omega)]
theorem NX {a:aq} (h:gx a=0) {i:Nat} (hi:i<(aR a.2.2.2).length):pK (aR a.2.2.2) (i:Int)=some (0,()):=by
 have hok:=rM h
 have hl:=sk a.2.2.2
 have h5:=hok.len
 have hA:=F1 hok.asc
 have hy:(aR a.2.2.2)[i]? =some (aR a.2.2.2)[i]:=aK hi
 obtain⟨p,hp,h0,hs⟩:=yb (Vn hi)
 rw[hs] at hy
 have hlb:=PJ h p hp
 have h18:p.1.length=18:=by
  unfold lbl at hlb
  simp only[Us,WI] at hlb
  exact hlb.1
 unfold pK
 rw[bN,hy,Wt]
 dsimp only
 rw[yP _ (by omega),Wt,hlb]
 dsimp only
 rw[UB,WD]
 have hprev:(bif decide ((i:Int)>0) then Option.bind (idx (aR a.2.2.2) (w64 ((i:Int) - 1))) fun y3=>some (Op.bytesLess p.1 y3.1||p.1==y3.1,()) else some (false,()))=some (false,()):=by
  cases i with
  | zero=>rfl
  | succ j=>
   have hj:(aR a.2.2.2)[j]? =some (aR a.2.2.2)[j]:=aK (by omega)
   rw[aZ (by omega),FW (by omega) (by omega),hj,Wt]
   have hb:=hA j (j+1) _ _ (by omega) hj hy
   have h1:=Od hb
   dsimp only at hb h1
   rw[h1]
   have h2:(p.1==(aR a.2.2.2)[j].1)=false:=by
    rw[WB]
    intro e
    rw[← e,di] at hb;cases hb
   rw[h2];rfl
 rw[hprev,Wt]
 dsimp only
 rw[WD,WE,Wt]
 dsimp only
 rw[show decide (w64 (((([]:List aj).length:Nat):Int)+((([]:List aj).length:Nat):Int))>0)=false from rfl,WD]
 have c2:=fun f hf=>Ta p.1 true f hf
 rw[show ((([([]:List aj),[]]:List (List aj)).length:Nat):Int)=((2:Nat):Int) from rfl]
 have hF:2<Int.natAbs ((2:Nat):Int)+(Int.natAbs (0:Int)+(p.1.length+(([]:List aj).length+(([]:List aj).length+(([[],[]]:List (List aj)).length+2))))):=by
  simp only[Vp,Vr];omega
 rw[show (0:Int)=((0:Nat):Int) from rfl] at hF ⊢
 rw[c2 _ hF,bD]
 dsimp only
 have e16:∀ f,0<f→iter f (([],((0:Nat):Int),((0:Nat):Int),p.1,true,[],[],()):kr) pL=some (Sum.inr ()):=by
  intro f hf
  obtain⟨f,rfl⟩:∃ m,f=m+1:=⟨f - 1,by omega⟩
  rw[jf]
  unfold pL
  dsimp only
  rw[aX (by omega)]
 have:=e16 (([]:List aj).length+(Int.natAbs ((([]:List aj).length:Nat):Int)+(Int.natAbs ((0:Nat):Int)+(p.1.length+(([]:List aj).length+(([]:List aj).length+2)))))) (by omega)
 exact (congrArg (fun z=>aW (β:=Int×Unit) (γ:=Unit) z fun _=>some (0,())) this).trans rfl
theorem DI {a:aq} (h:gx a=0):jQ (aR a.2.2.2)=some (0,()):=by
 have hok:=rM h
 have hl:=sk a.2.2.2
 have h5:=hok.len
 have hsf:=fun i hi=>NX h (i:=i) hi
 generalize aR a.2.2.2=S at*
 unfold jQ
 rw[aX (by omega)]
 have loop:∀ f,S.length<f→iter f ((S,(S.length:Int),(0:Int),()):ia) ki=some (Sum.inr ()):=by
  intro f hf
  refine cn (Inv:=fun i X=>X=((S,(S.length:Int),(i:Int),()):ia)) S.length (fun r=>r=some (Sum.inr ())) ?_ ?_ f 0 _ rfl (by omega) (by omega)
  ·rintro i _ again hi rfl ih
   unfold ki
   dsimp only
   rw[aZ (by omega),hsf i hi,Wt]
   dsimp only
   rw[show ((0:Int) != 0)=false from rfl,WD,br (by omega) (by omega)]
   exact ih _ rfl
  ·rintro _ again rfl
   unfold ki
   dsimp only
   rw[aX (by omega)]
 rw[loop _ (by omega),bD]
theorem EN {a:aq} (hf:Bl a) (h:gx a=0):fH a (aR a.2.2.2)=none:=by
 unfold fH
 rw[gJ a hf,Wt,h]
 dsimp only
 rw[show ((0:Int) != 0)=false from rfl,WD,DI h,Wt]
 rfl
theorem EO {a:aq} (hf:Bl a) (h:gx a=0):kY a (aR a.2.2.2)=some ((a,aR a.2.2.2,()),0,()):=by
 unfold kY
 rw[gJ a hf,Wt,h]
 dsimp only
 rw[show ((0:Int) != 0)=false from rfl,WD,DI h,Wt]
 rfl
theorem Oa {a:aq} (hf:Bl a) (h:gx a≠0) (S:List au):fH a S=some (none,gx a,()):=by
 unfold fH
 rw[gJ a hf,Wt]
 dsimp only
 rw[show (gx a != 0)=true by simpa using h,WE]
end Go.Md
set_option linter.all false
set_option maxRecDepth 20000
namespace Go.Md
open Go.Dn
theorem Lf (a:aq) {S:List au} (hl:S.length≤500) (hs:Asc (·.1) S) (t:List UInt8):
 (∃ s,s∈S∧s.1=t∧fW (a,S) t=some (s,true,())∧fD (a,S,()) t=some (s,true,(a,S,()),()))∨
 ((∀ s,s∈S→s.1≠t)∧fW (a,S) t=some (([],false,[],[]),false,())∧fD (a,S,()) t=some (([],false,[],[]),false,(a,S,()),())):=by
 obtain⟨i,h1,h2⟩:=MW S t (by omega) hs
 unfold fW fD
 dsimp only
 rw[h1,Wt,Wt]
 dsimp only
 cases hx:fG (fun x:au=>x.1) t S with
 | none=>
  right
  exact⟨fun s hs=>LG hx s hs,rfl,rfl⟩
 | some k=>
  left
  obtain⟨s,hk,he⟩:=kL hx
  have:=h2 k hx
  subst this
  refine⟨s,VG hk,he, ?_, ?_⟩
  ·rw[show (!(some i).isSome)=false from rfl,WD,bN,hk];rfl
  ·rw[show (!(some i).isSome)=false from rfl,WD,bN,hk];rfl
theorem MY {a:aq} (hok:ug a):∀ (m i f:Nat),i<a.2.2.2.length→(jc a.2.2.2 i).length=m→m<f→
 wg (fun self x=>bT self x.1 x.2.1) f ((a,aR a.2.2.2),(i:Int),())=some (true,())
 | m,i,f,hi,hm,hf=>by
  have hsl:=sk a.2.2.2
  have hl:=hok.len
  have hS:=F1 hok.asc
  have hp:a.2.2.2[i]? =some a.2.2.2[i]:=aK hi
  obtain⟨f,rfl⟩:∃ g,f=g+1:=⟨f - 1,by omega⟩
  have ihA:∀ j,j<a.2.2.2.length→(jc a.2.2.2 j).length<m→wg (fun self x=>bT self x.1 x.2.1) f ((a,aR a.2.2.2),(j:Int),())=some (true,()):=fun j hj hlt=>MY hok (jc a.2.2.2 j).length j f hj rfl (by omega)
  show bT (wg (fun self x=>bT self x.1 x.2.1) f) (a,aR a.2.2.2) (i:Int)=some (true,())
  generalize wg (fun self x=>bT self x.1 x.2.1) f=R at ihA ⊢
  unfold bT
  dsimp only
  rw[bN,hp,Wt]
  rcases Lf a (S:=aR a.2.2.2) (by omega) hS a.2.2.2[i].1 with ⟨s,hs,he,h1,_⟩ | ⟨hn,h1,_⟩
  ·rw[h1,Wt];rfl
  ·rw[h1,Wt]
   dsimp only
   rw[WD,Wt]
   rcases O7 hok.n1 hp with ⟨h0,_⟩ | ⟨h0,k',hk,hix⟩
   ·exact absurd rfl (hn _ (Q2 (Vn hi) h0))
   ·rw[show (a.2.2.2[i].2.1==[])=false by simpa using h0,WD]
    obtain⟨j,g1,g2⟩:=jm a a.2.2.2[i].2.1 (by omega) hok.asc
    have:=g2 k' hix
    subst this
    rw[g1,Wt]
    dsimp only
    have hst:=EE hok.nl hi hk
    have hk':j<a.2.2.2.length:=OJ (l:=a.2.2.2) (i:=i) (by rw[hst];exact VC)
    have hlen:(jc a.2.2.2 i).length=(jc a.2.2.2 j).length+1:=by rw[hst];rfl
    have ih:=ihA j hk' (by omega)
    rcases Lf a (S:=aR a.2.2.2) (by omega) hS a.2.2.2[i].2.1 with ⟨s,hs,he,h1,_⟩ | ⟨hn,h1,_⟩
    ·rw[h1,Wt,ih,Wt]
     obtain⟨p,_,_,rfl⟩:=yb hs
     rfl
    ·rw[h1,Wt,ih,Wt]
     rfl
termination_by m=>m
decreasing_by omega
theorem OM {a:aq} (hok:ug a) {i:Nat} (hi:i<a.2.2.2.length):dK (a,aR a.2.2.2) (i:Int)=some (true,()):=by
 have hal:=HK hok.nl hi
 unfold dK
 refine MY hok _ i _ hi rfl ?_
 unfold kZ
 dsimp only
 omega
theorem Qc {a:aq} (hok:ug a) {s:au} (hs:s∈aR a.2.2.2):gj (a,aR a.2.2.2,()) s=some ([],0,(a,aR a.2.2.2,()),()):=by
 have hl:=hok.len
 obtain⟨p,hp,h0,rfl⟩:=yb hs
 obtain⟨i,hi⟩:=VE.1 hp
 obtain⟨j,g1,g2⟩:=jm a p.1 (by omega) hok.asc
 have hix:=Gm (key:=fun x:ah=>x.1) hok.asc hi rfl
 rw[hix] at g1
 unfold gj
 dsimp only
 rw[g1,Wt]
 dsimp only
 rw[show (!(some i).isSome)=false from rfl,WD,UB,WD,bD]
 dsimp only
 have e11:∀ f,0<f→iter f (([],[],((0:Nat):Int),0,p.1,true,[],[],a.1,a.2.1,a.2.2.1,a.2.2.2,aR a.2.2.2,()):gu) jF=some (Sum.inr ([],a.1,a.2.1,a.2.2.1,a.2.2.2,aR a.2.2.2,())):=by
  intro f hf
  obtain⟨f,rfl⟩:∃ m,f=m+1:=⟨f - 1,by omega⟩
  rw[jf]
  unfold jF
  dsimp only
  rw[aX (by omega)]
 exact (congrArg (fun z=>aW z _) (e11 _ (by omega))).trans rfl
theorem QC:fI [] ()=some ([],()):=by kernel_rfl
theorem Ow {α β:Type} (x:α) (k:α→Option β) (e:Option β):JS (some x) k e=k x:=rfl
theorem HA {α β:Type} (k:α→Option β) (e:Option β):JS (none:Option α) k e=e:=rfl
theorem TV {a:aq} (hok:ug a) (f:Nat) (hf:a.2.2.2.length<f):
 iter (X:=jk) (β:=mQ) f (aR a.2.2.2,[],a.2.2.2,(a.2.2.2.length:Int),0,a.1,a.2.1,a.2.2.1,a.2.2.2,a.1,a.2.1,a.2.2.1,a.2.2.2,aR a.2.2.2,()) mP=some (Sum.inr (aR a.2.2.2,[],a.1,a.2.1,a.2.2.1,a.2.2.2,aR a.2.2.2,())):=by
 have hl:=hok.len
 refine cn (Inv:=fun i X=>X=((aR a.2.2.2,[],a.2.2.2,(a.2.2.2.length:Int),(i:Int),a.1,a.2.1,a.2.2.1,a.2.2.2,a.1,a.2.1,a.2.2.1,a.2.2.2,aR a.2.2.2,()):jk)) a.2.2.2.length (fun r=>r=some (Sum.inr (aR a.2.2.2,[],a.1,a.2.1,a.2.2.1,a.2.2.2,aR a.2.2.2,()))) ?_ ?_ f 0 _ rfl (by omega) (by omega)
 ·rintro i _ again hi rfl ih
  have hy:a.2.2.2[i]? =some a.2.2.2[i]:=aK hi
  have ha:gq (a.1,a.2.1,a.2.2.1,a.2.2.2) (i:Int)=some (cI (jc a.2.2.2 i),true,()):=Lt hok hi
  have hc:dK ((a.1,a.2.1,a.2.2.1,a.2.2.2),aR a.2.2.2) (i:Int)=some (true,()):=OM hok hi
  unfold mP
  dsimp only
  rw[aZ (by omega),bN,hy,Wt,ha,Wt,hc,Wt]
  dsimp only
  rw[UB,WD,br (by omega) (by omega)]
  exact ih _ rfl
 ·rintro _ again rfl
  unfold mP
  dsimp only
  rw[aX (by omega)]
theorem TH {a:aq} (hok:ug a) (f:Nat) (hf:(aR a.2.2.2).length<f):
 iter (X:=iG) (β:=lJ) f ([],aR a.2.2.2,((aR a.2.2.2).length:Int),0,a.1,a.2.1,a.2.2.1,a.2.2.2,aR a.2.2.2,()) lI=some (Sum.inr ([],())):=by
 have hl:=hok.len
 have hsl:=sk a.2.2.2
 have PB:maxLen=9223372036854775807:=rfl
 refine cn (Inv:=fun i X=>X=(([],aR a.2.2.2,((aR a.2.2.2).length:Int),(i:Int),a.1,a.2.1,a.2.2.1,a.2.2.2,aR a.2.2.2,()):iG)) (aR a.2.2.2).length (fun r=>r=some (Sum.inr ([],()))) ?_ ?_ f 0 _ rfl (by omega) (by omega)
 ·rintro i _ again hi rfl ih
  have hy:(aR a.2.2.2)[i]? =some (aR a.2.2.2)[i]:=aK hi
  have hc:gj ((a.1,a.2.1,a.2.2.1,a.2.2.2),aR a.2.2.2,()) (aR a.2.2.2)[i]=some ([],0,(a,aR a.2.2.2,()),()):=Qc hok (Vn hi)
  unfold lI
  dsimp only
  rw[aZ (by omega),bN,hy,Wt,hc,Wt]
  dsimp only
  rw[show ((0:Int) != 0)=false from rfl,WD,cM (by rw[Us];exact⟨WH (by simp only[Vr];omega),WH (by simp only[Vr];omega)⟩),br (by omega) (by omega)]
  exact ih _ rfl
 ·rintro _ again rfl
  unfold lI
  dsimp only
  rw[aX (by omega)]
theorem Pk {a:aq} (hf:Bl a) (h:gx a=0):kN a (aR a.2.2.2)=some ([],0,()):=by
 have hok:=rM h
 unfold kN
 rw[EN hf h,HA,EO hf h,Wt]
 dsimp only
 rw[show ((0:Int) != 0)=false from rfl,WD]
 have c6:=TV hok
 rw[c6 _ (V9 _ (V9 _ (Wa (by with_reducible repeat (first | exact Ws | refine V9 _ ?_))))),bD]
 dsimp only
 have c13:=TH hok
 rw[c13 _ (V9 _ <| Wa (by with_reducible repeat (first | exact Ws | refine V9 _ ?_))),bD]
 dsimp only
 rw[QC]
 rfl
theorem N5 {a:aq} (hf:Bl a) (h:gx a≠0) (S:List au):kN a S=some ([],gx a,()):=by
 unfold kN
 rw[Oa hf h,Ow]
 dsimp only
 rw[show (gx a != 0)=true by simpa using h,WE]
theorem T6 {a:aq} (hok:ug a) (f:Nat) (hf:(aR a.2.2.2).length<f):
 iter (X:=jl) (β:=mS) f (aR a.2.2.2,((aR a.2.2.2).length:Int),0,a.1,a.2.1,a.2.2.1,a.2.2.2,a.1,a.2.1,a.2.2.1,a.2.2.2,aR a.2.2.2,[],()) mR=some (Sum.inr (a.1,a.2.1,a.2.2.1,a.2.2.2,a.1,a.2.1,a.2.2.1,a.2.2.2,aR a.2.2.2,[],())):=by
 have hl:=hok.len
 have hsl:=sk a.2.2.2
 refine cn (Inv:=fun i X=>X=((aR a.2.2.2,((aR a.2.2.2).length:Int),(i:Int),a.1,a.2.1,a.2.2.1,a.2.2.2,a.1,a.2.1,a.2.2.1,a.2.2.2,aR a.2.2.2,[],()):jl)) (aR a.2.2.2).length (fun r=>r=some (Sum.inr (a.1,a.2.1,a.2.2.1,a.2.2.2,a.1,a.2.1,a.2.2.1,a.2.2.2,aR a.2.2.2,[],()))) ?_ ?_ f 0 _ rfl (by omega) (by omega)
 ·rintro i _ again hi rfl ih
  have hy:(aR a.2.2.2)[i]? =some (aR a.2.2.2)[i]:=aK hi
  obtain⟨p,hp,h0,hs⟩:=yb (Vn hi)
  rw[hs] at hy
  unfold mR
  dsimp only
  rw[aZ (by omega),bN,hy,Wt]
  dsimp only
  have e9:∀ f,0<f→iter f ((aR a.2.2.2,((aR a.2.2.2).length:Int),(i:Int),[],((0:Nat):Int),0,a.1,a.2.1,a.2.2.1,a.2.2.2,p.1,true,[],[],a.1,a.2.1,a.2.2.1,a.2.2.2,aR a.2.2.2,[],()):mT) rZ=some (Sum.inr (aR a.2.2.2,((aR a.2.2.2).length:Int),(i:Int),a.1,a.2.1,a.2.2.1,a.2.2.2,p.1,true,[],[],a.1,a.2.1,a.2.2.1,a.2.2.2,aR a.2.2.2,[],())):=by
   intro f hf
   obtain⟨f,rfl⟩:∃ m,f=m+1:=⟨f - 1,by omega⟩
   rw[jf]
   unfold rZ
   dsimp only
   rw[aX (by omega)]
  have e14:∀ f,0<f→iter f ((aR a.2.2.2,((aR a.2.2.2).length:Int),(i:Int),[],((0:Nat):Int),0,a.1,a.2.1,a.2.2.1,a.2.2.2,a.1,a.2.1,a.2.2.1,a.2.2.2,aR a.2.2.2,[],()):lQ) qQ=some (Sum.inr (aR a.2.2.2,((aR a.2.2.2).length:Int),(i:Int),a.1,a.2.1,a.2.2.1,a.2.2.2,a.1,a.2.1,a.2.2.1,a.2.2.2,aR a.2.2.2,[],())):=by
   intro f hf
   obtain⟨f,rfl⟩:∃ m,f=m+1:=⟨f - 1,by omega⟩
   rw[jf]
   unfold qQ
   dsimp only
   rw[aX (by omega)]
  refine (congrArg (fun z=>aW z _) (e9 _ (by omega))).trans ?_
  rw[bD]
  dsimp only
  refine (congrArg (fun z=>aW z _) (e14 _ (by omega))).trans ?_
  rw[bD]
  dsimp only
  rw[br (by omega) (by omega)]
  exact ih _ rfl
 ·rintro _ again rfl
  unfold mR
  dsimp only
  rw[aX (by omega)]
theorem Sl {n:Nat} {S:List (Tw×Int)} (hS:oL n S) (hn:n+100≤1000000) (l l2:List ah) (c1 c2:Int) (a1 a2:List UInt8) (a3:Int) (sc:List au) (cs:List aj) (hcs:cs.length≤100) (hc:∀ c∈cs,MN c) (f:Nat) (hf:cs.length<f) {M:List (Tw×ai)} (hM:M=S.map toW) {M':List (Tw×ai)} (hM':M'=(wA S cs).map toW):
 iter (X:=iI) (β:=lP) f (l,c1,c2,cs,(cs.length:Int),0,a1,a2,a3,l2,sc,M,()) lM=some (Sum.inr (l,c1,c2,a1,a2,a3,l2,sc,M',())):=by
 refine cn (Inv:=fun i X=>∃ M1,M1=(wA S (cs.take i)).map toW∧X=((l,c1,c2,cs,(cs.length:Int),(i:Int),a1,a2,a3,l2,sc,M1,()):iI)) cs.length (fun r=>r=some (Sum.inr (l,c1,c2,a1,a2,a3,l2,sc,M',()))) ?_ ?_ f 0 _ ⟨M,hM,rfl⟩ (by omega) (by omega)
 ·rintro i _ again hi ⟨M1,hM1,rfl⟩ ih
  have hy:cs[i]? =some cs[i]:=aK hi
  have hm:cs[i]∈cs:=Vn hi
  have ets:cs.take (i+1)=cs.take i++[cs[i]]:=by rw[List.take_succ,hy];rfl
  have hSi:oL (n+(cs.take i).length) (wA S (cs.take i)):=hS.Px _ fun c hc'=>hc c (VH hc')
  have hti:(cs.take i).length≤100:=by rw[Vt];omega
  have hadd:=HF hSi.sm (by omega) (ck cs[i]) (hc _ hm).d
  rw[← hM1] at hadd
  unfold lM
  dsimp only
  rw[aZ (by omega),bN,hy,Wt]
  refine (show _→_ from fun h=>h) ?_
  rw[show ((cs[i].1,cs[i].2.1):aD)=ck cs[i] from rfl,hadd,Wt]
  dsimp only
  rw[br (n:=(i:Int)+1) (by omega) (by omega)]
  exact ih _ ⟨_,by rw[ets,L1],rfl⟩
 ·rintro _ again ⟨M1,hM1,rfl⟩
  unfold lM
  dsimp only
  rw[aX (by omega)]
  rw[List.take_length] at hM1
  rw[hM1, ← hM']
theorem TN {a:aq} (hok:ug a) (hp:Pn a.2.2.2) {M':List (Tw×ai)} (hM':M'=(xo a.2.2.2 []).map toW) (f:Nat) (hf:a.2.2.2.length<f):
 iter (X:=iH) (β:=lN) f (a.2.2.2,(a.2.2.2.length:Int),0,a.1,a.2.1,a.2.2.1,a.2.2.2,aR a.2.2.2,[],()) lK=some (Sum.inr (M',())):=by
 have hl:=hok.len
 have hsl:=sk a.2.2.2
 have hS:=F1 hok.asc
 refine cn (Inv:=fun i X=>∃ M1,M1=(u7 (ym a.2.2.2 []) a.2.2.2 i).map toW∧X=((a.2.2.2,(a.2.2.2.length:Int),(i:Int),a.1,a.2.1,a.2.2.1,a.2.2.2,aR a.2.2.2,M1,()):iH)) a.2.2.2.length (fun r=>r=some (Sum.inr (M',()))) ?_ ?_ f 0 _ ⟨[],rfl,rfl⟩ (by omega) (by omega)
 ·rintro i _ again hi ⟨M1,hM1,rfl⟩ ih
  have hy:a.2.2.2[i]? =some a.2.2.2[i]:=aK hi
  have hpi:=hp a.2.2.2[i] (Vn hi)
  have hSi:=Cm (B:=ym a.2.2.2 []) hp i (by omega)
  have hc:dK ((a.1,a.2.1,a.2.2.1,a.2.2.2),aR a.2.2.2) (i:Int)=some (true,()):=OM hok hi
  obtain⟨M2,hM2⟩:∃ M2:List (Tw×ai),M2=(wA (u7 (ym a.2.2.2 []) a.2.2.2 i) a.2.2.2[i].2.2.2).map toW:=⟨_,rfl⟩
  have h2:=fun (f:Nat) (hf:a.2.2.2[i].2.2.2.length<f)=>Sl hSi (by omega) a.2.2.2 a.2.2.2 (a.2.2.2.length:Int) (i:Int) a.1 a.2.1 a.2.2.1 (aR a.2.2.2) a.2.2.2[i].2.2.2 hpi.1 hpi.2 f hf hM1 hM2
  have hnext:M2=(u7 (ym a.2.2.2 []) a.2.2.2 (i+1)).map toW:=by
   rw[hM2]
   simp only[u7]
   rw[show ym a.2.2.2 [] i=true from rfl,hy];rfl
  have hscan:∃ s b,fD ((a.1,a.2.1,a.2.2.1,a.2.2.2),aR a.2.2.2,()) a.2.2.2[i].1=some (s,b,(a,aR a.2.2.2,()),())∧(b=true→s.2.1=true):=by
   rcases Lf a (S:=aR a.2.2.2) (by omega) hS a.2.2.2[i].1 with ⟨s,hs,he,_,h1⟩ | ⟨hn,_,h1⟩
   ·obtain⟨p,_,_,rfl⟩:=yb hs
    exact⟨_,_,h1,fun _=>rfl⟩
   ·exact⟨_,_,h1,nofun⟩
  obtain⟨s,b,hsc,hb⟩:=hscan
  unfold lK
  dsimp only
  rw[aZ (by omega),bN,hy,Wt,hsc,Wt]
  dsimp only
  rw[hc,Wt]
  dsimp only
  rw[UB,WD]
  have hv:(bif b then some (!s.2.1,()) else some (false,()))=some (false,()):=by
   cases b with
   | false=>rfl
   | true=>rw[hb rfl];rfl
  rw[hv,Wt]
  dsimp only
  rw[WD,h2 _ (V9 _ (V9 _ (V9 _ (Wa (by with_reducible repeat (first | exact Ws | refine V9 _ ?_)))))),bD]
  dsimp only
  rw[br (n:=(i:Int)+1) (by omega) (by omega)]
  exact ih _ ⟨M2,hnext,rfl⟩
 ·rintro _ again ⟨M1,hM1,rfl⟩
  unfold lK
  dsimp only
  rw[aX (by omega)]
  rw[hM1,hM'];rfl
theorem N7 {a:aq} (hf:Bl a) (h:gx a=0):rB a (aR a.2.2.2)=some ((o8 (xo a.2.2.2 [])).1,(o8 (xo a.2.2.2 [])).2,()):=by
 have hok:=rM h
 have hl:=hok.len
 unfold rB
 rw[EN hf h,HA,EO hf h,Wt]
 dsimp only
 rw[show ((0:Int) != 0)=false from rfl,WD]
 have r6:=T6 hok
 rw[r6 _ (Wa (by with_reducible repeat (first | exact Ws | refine V9 _ ?_))),bD]
 dsimp only
 obtain⟨M,hM⟩:∃ M:List (Tw×ai),M=(xo a.2.2.2 []).map toW:=⟨_,rfl⟩
 have r20:=TN hok (Gs h) hM
 rw[r20 _ (Wa (by with_reducible repeat (first | exact Ws | refine V9 _ ?_))),bD]
 dsimp only
 rw[hM,Ju (Pf h []) (by omega),Wt]
theorem N6 (l:List bp) (hl:l.length≤1000000):iX l l=some (true,()):=by
 unfold iX
 rw[show ((l.length:Int) != (l.length:Int))=false by simp,WD]
 have loop:∀ f,l.length<f→iter f ((l,l,(l.length:Int),(0:Int),()):fA) gO=some (Sum.inr ()):=by
  intro f hf
  refine cn (Inv:=fun i X=>X=((l,l,(l.length:Int),(i:Int),()):fA)) l.length (fun r=>r=some (Sum.inr ())) ?_ ?_ f 0 _ rfl (by omega) (by omega)
  ·rintro i _ again hi rfl ih
   unfold gO
   dsimp only
   have hy:l[i]? =some l[i]:=aK hi
   rw[aZ (by omega),bN,hy,Wt,Wt]
   simp only[beq_self_eq_true,Bool.and_self,UB,WD]
   rw[br (by omega) (by omega)]
   exact ih _ rfl
  ·rintro _ again rfl
   unfold gO
   dsimp only
   rw[aX (by omega)]
 rw[loop _ (by omega),bD]
theorem law_ParcelSealedIsAll (a:aq) (hf:Bl a) (hl:a.2.2.2.length*72≤140737488355328):jv a=some (true,()):=by
 unfold jv
 rw[Qi a hl,Wt]
 dsimp only
 by_cases h:gx a=0
 rotate_left
 ·rw[N5 hf h,Wt]
  dsimp only
  rw[show (gx a != 0)=true by simpa using h,WE]
  rw[show (((([]:List aa).length:Nat):Int)==0)=true from rfl,WE,Hu]
  rfl
 rw[Pk hf h,Wt]
 dsimp only
 rw[show ((0:Int) != 0)=false from rfl,WD,IF a hf [],Wt,Wt]
 dsimp only
 have ht:N1 a []=o8 (xo a.2.2.2 []):=by
  unfold N1
  rw[WM (by simpa using h),WN (.inl rfl)]
 rw[ht,N7 hf h,Wt]
 dsimp only
 have hlen:(o8 (xo a.2.2.2 [])).1.length≤1000000:=by
  rcases PA (xo a.2.2.2 []) with h0 | h0
  ·have:=(Su (Pf h []) h0).2.2
   omega
  ·unfold o8 at*
   cases hg:vJ (xo a.2.2.2 []) (ksS (xo a.2.2.2 [])) with
   | none=>exact Wr _
   | some L=>rw[hg] at h0;cases h0
 rw[show (((([]:List aa).length:Nat):Int)==0)=true from rfl,WE,show ((o8 (xo a.2.2.2 [])).2==(o8 (xo a.2.2.2 [])).2)=true by simp,WE,N6 _ hlen,Wt]
 dsimp only
 rw[WE,Hu]
 rfl
end Go.Md
