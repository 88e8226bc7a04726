/-
  Plain facts: what is in parcels; scans of both sides. No condition.
-/
import Derived.Test.YtfghdjdpccoleabGreatDoorYo
import Derived.Test.YtfghdjdpccoleabGreatDoorYu
set_option linter.all false
set_option linter.all false
set_option maxRecDepth 20000
namespace Go.Md
open Go.Dn
abbrev Tw:Type:=Bys×Bys
theorem JN (a b:Tw):Ty.beq aU a b=decide (a=b):=by
 show (QG a.1 b.1&&QG a.2 b.2)=_
 by_cases h1:a.1=b.1
 ·by_cases h2:a.2=b.2
  ·rw[ais (Prod.ext h1 h2)]
   simp[QG,h1,h2]
  ·rw[aiq (fun e=>h2 (by rw[e]))]
   simp[QG,h2]
 ·rw[aiq (fun e=>h1 (by rw[e]))]
  simp[QG,h1]
def toW (p:Tw×Int):Tw×aB:=(p.1,W p.2)
def gC (k:Tw):List (Tw×Int)->Option Int
 | []=>none
 | p::r=>if k=p.1 then some p.2 else gC k r
def jZ (k:Tw) (z:Int):List (Tw×Int)->List (Tw×Int)
 | []=>[(k,z)]
 | p::r=>if k=p.1 then (k,p.2+z)::r else p::jZ k z r
theorem abn (k:Tw):∀ S:List (Tw×Int),je (k:=aU) (v:=aR) (S.map toW) k=(gC k S).map W
 | []=>rfl
 | p::r=>by
  refine (@abo aU aR (toW p) (r.map toW) k).trans ?_
  have ih:=abn k r
  simp only[gC]
  by_cases h:k=p.1
  ·rw[aiB h,show Ty.beq aU k (toW p).1=true from (JN _ _).trans (ais h)];rfl
  ·rw[aiA h,show Ty.beq aU k (toW p).1=false from (JN _ _).trans (aiq h),ain];exact ih
theorem UJ (k:Tw) (z:Int):∀ (S:List (Tw×Int)) (b:Int),gC k S=some b->oc (k:=aU) (v:=aR) (S.map toW) k (W (b+z))=(jZ k z S).map toW
 | p::r,b,h=>by
  refine (@UH aU aR (toW p) (r.map toW) k _).trans ?_
  simp only[gC] at h
  simp only[jZ]
  by_cases e:k=p.1
  ·rw[aiB e] at h
   cases h
   rw[aiB e,show Ty.beq aU k (toW p).1=true from (JN _ _).trans (ais e)];rfl
  ·rw[aiA e] at h
   rw[aiA e,show Ty.beq aU k (toW p).1=false from (JN _ _).trans (aiq e),ain,UJ k z r b h]
   rfl
theorem UI (k:Tw) (z:Int):∀ (S:List (Tw×Int)),gC k S=none->oc (k:=aU) (v:=aR) (S.map toW) k (W z)=(jZ k z S).map toW
 | [],_=>rfl
 | p::r,h=>by
  refine (@UH aU aR (toW p) (r.map toW) k _).trans ?_
  simp only[gC] at h
  simp only[jZ]
  by_cases e:k=p.1
  ·rw[aiB e] at h;cases h
  ·rw[aiA e] at h
   rw[aiA e,show Ty.beq aU k (toW p).1=false from (JN _ _).trans (aiq e),ain,UI k z r h]
   rfl
theorem abm (k:Tw) (S:List (Tw×Int)) (M:List (Tw×aB)) (hM:M=S.map toW):je (k:=aU) (v:=aR) M k=(gC k S).map W:=by
 subst hM;exact abn k S
theorem Z5 (k:Tw) (z:Int) (S:List (Tw×Int)) (M:List (Tw×aB)) (hM:M=S.map toW) (b:Int) (h:gC k S=some b):oc (k:=aU) (v:=aR) M k (W (b+z))=(jZ k z S).map toW:=by
 subst hM;exact UJ k z S b h
theorem Z4 (k:Tw) (z:Int) (S:List (Tw×Int)) (M:List (Tw×aB)) (hM:M=S.map toW) (h:gC k S=none):oc (k:=aU) (v:=aR) M k (W z)=(jZ k z S).map toW:=by
 subst hM;exact UI k z S h
def M24:Nat:=10 ^ 24
def Sm (n:Nat) (S:List (Tw×Int)):Prop:=∀ p∈S,p.2.natAbs<=n*M24
theorem Sm.add {n:Nat} {S:List (Tw×Int)} (h:Sm n S) {k:Tw} {z:Int} (hz:z.natAbs<=10 ^ 24):Sm (n+1) (jZ k z S):=by
 have hz:z.natAbs<=M24:=hz
 have e:(n+1)*M24=n*M24+M24:=by rw[ahB,ah1]
 induction S with
 | nil=>
  intro p hp
  rcases ahf.1 hp with rfl
  show z.natAbs<=_
  rw[e];omega
 | cons q r ih=>
  have h1:=h q ag5
  intro p hp
  simp only[jZ] at hp
  split at hp
  ·rcases ag3.1 hp with rfl | hp
   ·show (q.2+z).natAbs<=_
    rw[e];omega
   ·have:=h p (ag4 _ hp)
    rw[e];omega
  ·rcases ag3.1 hp with rfl | hp
   ·rw[e];omega
   ·exact ih (fun x hx=>h x (ag4 _ hx)) p hp
theorem Hu {k:Tw}:∀ {S:List (Tw×Int)} {b:Int},gC k S=some b->(k,b)∈S
 | p::r,b,h=>by
  simp only[gC] at h
  split at h
  ·rename_i e
   cases h
   rw[e];exact ag5
  ·exact ag4 _ (Hu h)
theorem Sm.le {n:Nat} {S:List (Tw×Int)} (h:Sm n S) (hn:n<=1000000) {p:Tw×Int} (hp:p∈S):p.2.natAbs<=10 ^ 30:=by
 have h1:=h p hp
 have h2:=ahZ M24 hn
 exact ahK h1 (ahK h2 (by unfold M24;decide))
theorem JP {d:ax} (h:cc d):(v9 d).natAbs<=10 ^ 24:=Ot h
theorem Zt {d:ax} (h:cc d):jk d 9=some (W (v9 d),()):=by
 have h1:=h.1;have h2:=h.2
 exact FD d 9 (by omega) (by omega) (by omega) (by omega) (by omega)
theorem VU {n:Nat} (h:n<=10 ^ 40):n<4294967296 ^ 99:=by
 refine ahN h ?_
 exact ahO (show 10 ^ 40<4294967296 ^ 5 by decide) (ah3 (by decide) (by decide))
theorem IF {n:Nat} {S:List (Tw×Int)} (hS:Sm n S) (hn:n<=1000000) (k:Tw) {d:ax} (hd:cc d):gP (S.map toW) k d=some ((jZ k (v9 d) S).map toW,()):=by
 have hv:=JP hd
 obtain⟨M,hM⟩:∃ M:List (Tw×aB),M=S.map toW:=⟨_,rfl⟩
 rw[<- hM]
 have hg:=abm k S M hM
 have hs:=fun b h=>Z5 k (v9 d) S M hM b h
 have hs0:=Z4 k (v9 d) S M hM
 unfold gP
 rw[hg]
 cases h:gC k S with
 | none=>
  show (Option.bind (rz 0) fun r1=>Option.bind (jk d 9) fun r2=>Option.bind (jG r1.1 r2.1) fun r3=>some (oc (k:=aU) (v:=aR) M k r3.1,()))=_
  rw[vp 0 (by omega) (by omega),aib,Zt hd,aib]
  dsimp only
  rw[yP 0 _ (VU (by omega)) (VU (by omega)),aib]
  dsimp only
  rw[Int.zero_add,hs0 h]
  rfl
 | some b=>
  have hb:=hS.le hn (Hu h)
  show (Option.bind (jk d 9) fun r4=>Option.bind (jG (W b) r4.1) fun r5=>some (oc (k:=aU) (v:=aR) M k r5.1,()))=_
  rw[Zt hd,aib]
  dsimp only
  rw[yP b _ (VU (by omega)) (VU (by omega)),aib]
  dsimp only
  rw[hs b h]
  rfl
theorem LZ (k:Tw) (z:Int):∀ S:List (Tw×Int),(∀ p,p∈jZ k z S->p.1=k\/∃ q∈S,q.1=p.1)
 | [],p,hp=>by rcases ahf.1 hp with rfl;exact .inl rfl
 | q::r,p,hp=>by
  simp only[jZ] at hp
  split at hp
  ·rcases ag3.1 hp with rfl | hp
   ·exact .inl rfl
   ·exact .inr ⟨p,ag4 _ hp,rfl⟩
  ·rcases ag3.1 hp with rfl | hp
   ·exact .inr ⟨p,ag5,rfl⟩
   ·rcases LZ k z r p hp with h | ⟨x,hx,h⟩
    ·exact .inl h
    ·exact .inr ⟨x,ag4 _ hx,h⟩
theorem YV (k:Tw) (z:Int):∀ S:List (Tw×Int),(S.map (·.1)).Nodup->((jZ k z S).map (·.1)).Nodup
 | [],_=>by simp[jZ]
 | q::r,h=>by
  rw[agY,ahi] at h
  simp only[jZ]
  split
  ·rename_i e
   rw[agY,ahi,e];exact h
  ·rename_i e
   rw[agY,ahi]
   refine⟨fun hm=> ?_,YV k z r h.2⟩
   obtain⟨p,hp,e1⟩:=ag9.1 hm
   rcases LZ k z r p hp with h1 | ⟨x,hx,h1⟩
   ·exact e (by rw[<- h1,e1])
   ·exact h.1 (ag9.2 ⟨x,hx,h1.trans e1⟩)
theorem VY (k:Tw) (z:Int):∀ S:List (Tw×Int),(jZ k z S).length<=S.length+1
 | []=>by simp[jZ]
 | q::r=>by
  have ih:=VY k z r
  simp only[jZ]
  split
  ·simp
  ·simp only[agN];omega
structure Cj (n:Nat) (S:List (Tw×Int)):Prop where
 sm:Sm n S
 nd:(S.map (·.1)).Nodup
 st:∀ p∈S,p.1.1.length<=1000/\p.1.2.length<=1000
 len:S.length<=n
theorem Cj.nil:Cj 0 []:=⟨fun _ h=>(by cases h),List.nodup_nil,fun _ h=>(by cases h),ahJ _⟩
theorem Cj.add {n:Nat} {S:List (Tw×Int)} (h:Cj n S) {k:Tw} {z:Int} (hz:z.natAbs<=10 ^ 24) (hk:k.1.length<=1000/\k.2.length<=1000):Cj (n+1) (jZ k z S):=
 ⟨h.sm.add hz,YV k z S h.nd,fun p hp=>by
   rcases LZ k z S p hp with e | ⟨q,hq,e⟩
   ·rw[e];exact hk
   ·rw[<- e];exact h.st q hq,ahK (VY k z S) (Nat.succ_le_succ h.len)⟩
theorem Zc {s:Bys} (h:lN s=true):s.length<=1000:=by
 apply Decidable.byContradiction
 intro hc
 unfold lN at h
 have e:ij s=some (false,()):=by
  unfold ij
  rw[ay (by omega),av (by omega)]
 rw[e] at h
 cases h
structure HZ (c:aa):Prop where
 d:cc c.2.2.2
 n1:c.1.length<=1000
 n2:c.2.1.length<=1000
theorem gT {l:List aa} (h:aX l=0):∀ c∈l,HZ c:=by
 have hq:=(Ya h).2
 unfold aX at h
 split at h
 ·omega
 intro c hc
 have hd:=(hq c hc).dec
 obtain⟨i,hi⟩:=ag8.1 hc
 have:=gF h i c hi
 unfold E6 at this
 split at this
 ·omega
 rename_i h1
 split at this
 ·omega
 rename_i h2
 exact⟨hd,Zc (by simpa using h1),Zc (by simpa using h2)⟩
def ck (c:aa):Tw:=(c.1,c.2.1)
end Go.Md
set_option linter.all false
set_option maxRecDepth 20000
namespace Go.Md
open Go.Dn
theorem Ec {a b:Tw}:fK a b<0↔Op.bytesLess a.1 b.1=true\/(a.1=b.1/\Op.bytesLess a.2 b.2=true):=by
 unfold fK
 by_cases h:Lib.compareBytes a.1 b.1=0
 ·rw[show (Lib.compareBytes a.1 b.1==0)=true by simpa using h,aio,eU]
  have e:=dM.1 h
  constructor
  ·intro h2;exact .inr ⟨e,h2⟩
  ·rintro (h2 | ⟨_,h2⟩)
   ·rw[e,dS] at h2;cases h2
   ·exact h2
 ·rw[show (Lib.compareBytes a.1 b.1==0)=false by simpa using h,ain,eU]
  constructor
  ·exact .inl
  ·rintro (h2 | ⟨e,_⟩)
   ·exact h2
   ·exact absurd (dM.2 e) h
theorem AX (a b:Tw):fK a b<0\/a=b\/fK b a<0:=by
 rw[Ec,Ec]
 rcases sN a.1 b.1 with h | h | h
 ·exact .inl (.inl h)
 ·rcases sN a.2 b.2 with g | g | g
  ·exact .inl (.inr ⟨h,g⟩)
  ·exact .inr (.inl (Prod.ext h g))
  ·exact .inr (.inr (.inr ⟨h.symm,g⟩))
 ·exact .inr (.inr (.inl h))
theorem acu {n:Nat} {S:List (Tw×Int)} (h:Cj n S) (hn:n<=1000000):Fu fK (S.map toW)=true:=by
 have e:(S.map toW).map (·.1)=S.map (·.1):=by rw[agZ];rfl
 have h1:=h.len
 unfold Fu
 rw[e]
 simp only[afv,ait,agP,af0,afI]
 refine⟨by omega,fun p hp=> ?_,h.nd,fun x _ y _=> ?_⟩
 ·obtain⟨q,hq,rfl⟩:=ag9.1 hp
  have:=h.st q hq
  show q.1.1.length<=_/\q.1.2.length<=_
  omega
 ·rcases AX x y with h | h | h
  ·exact .inl h
  ·exact .inr (.inr h)
  ·exact .inr (.inl h)
def ksS (S:List (Tw×Int)):List Tw:=(S.map (·.1)).mergeSort fun x y=> !decide (fK y x<0)
theorem ad7 (S:List (Tw×Int)):qc fK (S.map toW)=ksS S:=by
 have e:(S.map toW).map (·.1)=S.map (·.1):=by rw[agZ];rfl
 unfold qc ksS
 rw[e]
theorem Ga (S:List (Tw×Int)):(ksS S).Perm (S.map (·.1)):=ahg _ _
def QK (S:List (Tw×Int)) (k:Tw):Int:=(gC k S).getD 0
theorem acB {S:List (Tw×Int)} (hnd:(S.map (·.1)).Nodup) {p:Tw×Int} (hp:p∈S):gC p.1 S=some p.2:=by
 induction S with
 | nil=>cases hp
 | cons q r ih=>
  rw[agY,ahi] at hnd
  simp only[gC]
  rcases ag3.1 hp with rfl | hp
  ·rw[aiB rfl]
  ·rw[aiA (fun e=>hnd.1 (ag9.2 ⟨p,hp,e⟩))]
   exact ih hnd.2 hp
def okD (z:Int):Bool:=decide ((few 9 z).1.natAbs<=1000000000000000)
def Er (S:List (Tw×Int)):List Tw->Option (List bD)
 | []=>some []
 | k::r=>if okD (QK S k)=true then (Er S r).map fun l=>if (few 9 (QK S k)).1=0 then l else (k.1,k.2,nN (QK S k))::l else none
def F5 (S:List (Tw×Int)):List bD×Int:=match Er S (ksS S) with
 | some l=>(l,0)
 | none=>([],1)
theorem ady {z:Int} (h:z.natAbs<=10 ^ 30):Le 42 z:=ahK h (by decide)
theorem ad6 {n:Nat} {S:List (Tw×Int)} (h:Cj n S) (hn:n<=1000000) {M:List (Tw×aB)} (hM:M=S.map toW) (ks:List Tw) (hks:ks.length<=1000000) (hsub:∀ k∈ks,∃ z,gC k S=some z):
 ∀ (r:List Tw) (i f:Nat) (acc:List bD),ks.drop i=r->i<=ks.length->r.length<f->acc.length<=i->
 iter (X:=nr) (β:=nk) f (acc,(ks.length:Int),(i:Int),ks,M,()) kN=
  some (match Er S r with | some l=>Sum.inr (acc++l,M,()) | none=>Sum.inl ([],1,M,())):=by
 have wR:maxLen=9223372036854775807:=rfl
 intro r
 induction r with
 | nil=>
  intro i f acc hdr hi hf ha
  have:i=ks.length:=by
   have:=congrArg List.length hdr
   simp at this;omega
  subst this
  obtain⟨f,rfl⟩:∃ m,f=m+1:=⟨f - 1,by omega⟩
  rw[aY]
  unfold kN
  dsimp only
  rw[ay (by omega)]
  simp only[Er,af4]
 | cons k r ih=>
  intro i f acc hdr hi hf ha
  have hki:ks[i]? =some k:=by
   have:=congrArg (·[0]?) hdr
   simpa [agy] using this
  have hr':ks.drop (i+1)=r:=by
   have:=congrArg List.tail hdr
   simpa [ahr] using this
  have hlt:=(agB.1 hki).1
  obtain⟨z,hz⟩:=hsub k (aha hki)
  have hv:QK S k=z:=by unfold QK;rw[hz];rfl
  have hzb:=h.sm.le hn (Hu hz)
  obtain⟨f,rfl⟩:∃ m,f=m+1:=⟨f - 1,by simp at hf;omega⟩
  simp only[agN] at hf
  have hg:Option.getD (α:=aB) (je (k:=aU) (v:=aR) M k) (false,[])=W z:=by
   rw[abm k S M hM,hz];rfl
  rw[aY]
  generalize hag:(fun y=>iter f y kN)=again
  unfold kN
  dsimp only
  rw[av (by omega),aH (by simp only[afv,ait];omega),afY,hki,aib,hg,Jj (ady hzb),aib]
  simp only[Er]
  rw[hv]
  by_cases hok:(few 9 z).1.natAbs<=1000000000000000
  ·rw[aiB hok,aiB (show okD z=true from ais hok)]
   dsimp only
   rw[zne,ain,au (n:=(i:Int)+1) (by omega) (by omega), <- hag,show (i:Int)+1=((i+1:Nat):Int) by omega]
   have ht:(nN z).1=(few 9 z).1:=rfl
   rw[ht]
   by_cases h0:(few 9 z).1=0
   ·rw[h0,zne,ain]
    refine (ih (i+1) f acc hr' (by omega) (by omega) (by omega)).trans ?_
    cases Er S r with
    | none=>rfl
    | some l=>rfl
   ·rw[show ((few 9 z).1 != 0)=true by simpa using h0,aio,aH (by rw[afv];exact⟨ais (by omega),ais (by omega)⟩)]
    refine (ih (i+1) f _ hr' (by omega) (by omega) (by simp;omega)).trans ?_
    cases Er S r with
    | none=>rfl
    | some l=>
     show some (Sum.inr ((acc++[(k.1,k.2,nN z)])++l,M,()))=some (Sum.inr (acc++(if (few 9 z).1=0 then l else (k.1,k.2,nN z)::l),M,()))
     rw[aiA h0,af3]
     rfl
  ·rw[aiA hok,aiA (show ¬okD z=true from fun e=>hok (aiG e))]
   rfl
theorem ZR {n:Nat} {S:List (Tw×Int)} (h:Cj n S) (hn:n<=1000000):yb (S.map toW)=some ((F5 S).1,(F5 S).2,S.map toW,()):=by
 have hk:=acu h hn
 have he:=ad7 S
 have hp:=Ga S
 have hl:=h.len
 have hkl:(ksS S).length<=1000000:=by rw[hp.length_eq,agP];omega
 obtain⟨M,hM⟩:∃ M:List (Tw×aB),M=S.map toW:=⟨_,rfl⟩
 rw[<- hM] at hk he ⊢
 unfold yb
 rw[aH hk,he]
 have loop:=ad6 h hn hM (ksS S) hkl (fun k hk=>by
  obtain⟨p,hp',rfl⟩:=ag9.1 (hp.mem_iff.1 hk)
  exact⟨_,acB h.nd hp'⟩) (ksS S) 0
 have loop':∀ f,(ksS S).length<f->iter (X:=nr) (β:=nk) f ([],((ksS S).length:Int),0,ksS S,M,()) kN=_:=fun f hf=>loop f [] rfl (ah8 _) hf (ahJ _)
 rw[loop' _ (by rw[Int.natAbs_natCast];omega)]
 unfold F5
 cases Er S (ksS S) with
 | none=>rfl
 | some l=>rfl
end Go.Md
set_option linter.all false
set_option maxRecDepth 20000
namespace Go.Md
open Go.Dn
structure SOr {κ:Type} (lt:κ->κ->Bool):Prop where
 irr:∀ a,lt a a=false
 tr:∀ {a b c},lt a b=true->lt b c=true->lt a c=true
 tri:∀ a b,lt a b=true\/a=b\/lt b a=true
theorem Po {κ:Type} {lt:κ->κ->Bool} (irr:∀ a,lt a a=false) (tr:∀ {a b c},lt a b=true->lt b c=true->lt a c=true):∀ {l l':List κ},l.Pairwise (fun a b=>lt a b=true)->l'.Pairwise (fun a b=>lt a b=true)->(∀ x,x∈l↔x∈l')->l=l'
 | [],[],_,_,_=>rfl
 | [],y::r,_,_,hm=>by have:=(hm y).2 ag5;cases this
 | x::l,[],_,_,hm=>by have:=(hm x).1 ag5;cases this
 | x::l,y::r,h1,h2,hm=>by
  rw[ahk] at h1 h2
  have hxy:x=y:=by
   rcases ag3.1 ((hm x).1 ag5) with e | hx
   ·exact e
   rcases ag3.1 ((hm y).2 ag5) with e | hy
   ·exact e.symm
   have a1:=h2.1 x hx
   have a2:=h1.1 y hy
   have a3:=tr a1 a2
   rw[irr] at a3;cases a3
  subst hxy
  have:l=r:=by
   refine Po irr tr h1.2 h2.2 fun z=>⟨fun hz=> ?_,fun hz=> ?_⟩
   ·rcases ag3.1 ((hm z).1 (ag4 _ hz)) with e | hz'
    ·have:=h1.1 z hz;rw[e,irr] at this;cases this
    ·exact hz'
   ·rcases ag3.1 ((hm z).2 (ag4 _ hz)) with e | hz'
    ·have:=h2.1 z hz;rw[e,irr] at this;cases this
    ·exact hz'
  rw[this]
theorem Li {κ:Type} {lt:κ->κ->Bool} (h:SOr lt) {l l':List κ} (h1:l.Pairwise (fun a b=>lt a b=true)) (h2:l'.Pairwise (fun a b=>lt a b=true)) (hm:∀ x,x∈l↔x∈l'):l=l':=
 Po h.irr h.tr h1 h2 hm
section
variable {κ:Type} [DecidableEq κ] (lt:κ->κ->Bool)
def dA (k:κ) (z:Int):List (κ×Int)->List (κ×Int)
 | []=>[(k,z)]
 | p::r=>if lt p.1 k=true then p::dA k z r else if p.1=k then (p.1,p.2+z)::r else (k,z)::p::r
def gw (k:κ):List (κ×Int)->Option Int
 | []=>none
 | p::r=>if k=p.1 then some p.2 else gw k r
def tc (R:List (κ×Int)):Prop:=R.Pairwise fun a b=>lt a.1 b.1=true
variable {lt}
theorem VX {k:κ} {z:Int}:∀ {R:List (κ×Int)} {q:κ×Int},q∈dA lt k z R->q.1=k\/q∈R
 | [],q,h=>by simp[dA] at h;exact .inl (by rw[h])
 | p::r,q,h=>by
  unfold dA at h
  split at h
  ·rcases ag3.1 h with e | h
   ·exact .inr (by rw[e];exact ag5)
   ·rcases VX h with e | h
    ·exact .inl e
    ·exact .inr (ag4 _ h)
  ·split at h
   ·rename_i e
    rcases ag3.1 h with e2 | h
    ·exact .inl (by rw[e2];exact e)
    ·exact .inr (ag4 _ h)
   ·rcases ag3.1 h with e2 | h
    ·exact .inl (by rw[e2])
    ·exact .inr h
theorem LX {k:κ} {z:Int}:∀ {R:List (κ×Int)} (x:κ),x∈(dA lt k z R).map (·.1)↔x=k\/x∈R.map (·.1)
 | [],x=>by simp[dA]
 | p::r,x=>by
  unfold dA
  split
  ·rw[agY,ag3,LX (R:=r) x,agY,ag3]
   constructor
   ·rintro (h | h | h)
    ·exact .inr (.inl h)
    ·exact .inl h
    ·exact .inr (.inr h)
   ·rintro (h | h | h)
    ·exact .inr (.inl h)
    ·exact .inl h
    ·exact .inr (.inr h)
  ·split
   ·rename_i e
    simp only[agY,ag3,e]
    constructor
    ·rintro (h | h)
     ·exact .inl h
     ·exact .inr (.inr h)
    ·rintro (h | h | h)
     ·exact .inl h
     ·exact .inl h
     ·exact .inr h
   ·simp only[agY,ag3]
theorem JU (ho:SOr lt) {k:κ} {z:Int}:∀ {R:List (κ×Int)},tc lt R->tc lt (dA lt k z R)
 | [],_=>by unfold dA tc;exact List.pairwise_singleton _ _
 | p::r,h=>by
  unfold tc at h
  rw[ahk] at h
  unfold dA
  split
  ·rename_i hlt
   unfold tc
   rw[ahk]
   refine⟨fun q hq=> ?_,JU ho h.2⟩
   rcases VX hq with e | hq
   ·rw[e];exact hlt
   ·exact h.1 q hq
  ·split
   ·unfold tc
    rw[ahk]
    exact⟨fun q hq=>h.1 q hq,h.2⟩
   ·rename_i h1 h2
    have hkp:lt k p.1=true:=by
     rcases ho.tri k p.1 with a | a | a
     ·exact a
     ·exact absurd a.symm h2
     ·exact absurd a h1
    unfold tc
    rw[ahk]
    refine⟨fun q hq=> ?_,ahk.2 h⟩
    rcases ag3.1 hq with e | hq
    ·rw[e];exact hkp
    ·exact ho.tr hkp (h.1 q hq)
theorem RW {k:κ}:∀ {R:List (κ×Int)},k∉R.map (·.1)->gw k R=none
 | [],_=>rfl
 | p::r,h=>by
  simp only[agY,ag3,aiF] at h
  unfold gw
  rw[aiA h.1]
  exact RW h.2
theorem Fg (ho:SOr lt) {k:κ} {z:Int} (j:κ):∀ {R:List (κ×Int)},tc lt R->gw j (dA lt k z R)=if j=k then some ((gw k R).getD 0+z) else gw j R
 | [],_=>by
  unfold dA
  by_cases e:j=k
  ·rw[aiB e];simp[gw,e]
  ·rw[aiA e];simp[gw,e]
 | p::r,h=>by
  unfold tc at h
  rw[ahk] at h
  unfold dA
  split
  ·rename_i hlt
   have hpk:k≠p.1:=fun e=>by rw[<- e,ho.irr] at hlt;cases hlt
   by_cases e:j=k
   ·rw[aiB e]
    have hpj:j≠p.1:=by rw[e];exact hpk
    show (if j=p.1 then some p.2 else gw j (dA lt k z r))=some (((if k=p.1 then some p.2 else gw k r)).getD 0+z)
    rw[aiA hpj,Fg ho j h.2,aiB e,aiA hpk]
   ·rw[aiA e]
    show (if j=p.1 then some p.2 else gw j (dA lt k z r))=(if j=p.1 then some p.2 else gw j r)
    rw[Fg ho j h.2,aiA e]
  ·split
   ·rename_i h1 h2
    by_cases e:j=k
    ·rw[aiB e]
     show (if j=p.1 then some (p.2+z) else gw j r)=some (((if k=p.1 then some p.2 else gw k r)).getD 0+z)
     rw[aiB (e.trans h2.symm),aiB h2.symm];rfl
    ·rw[aiA e]
     show (if j=p.1 then some (p.2+z) else gw j r)=(if j=p.1 then some p.2 else gw j r)
     have:j≠p.1:=fun e2=>e (e2.trans h2)
     rw[aiA this,aiA this]
   ·rename_i h1 h2
    have hk:k∉(p::r).map (·.1):=by
     have hkp:lt k p.1=true:=by
      rcases ho.tri k p.1 with a | a | a
      ·exact a
      ·exact absurd a.symm h2
      ·exact absurd a h1
     intro hm
     rw[agY] at hm
     rcases ag3.1 hm with e | hm
     ·exact h2 e.symm
     ·obtain⟨q,hq,e⟩:=ag9.1 hm
      have:=ho.tr hkp (h.1 q hq)
      rw[e,ho.irr] at this;cases this
    by_cases e:j=k
    ·rw[aiB e,RW hk]
     show (if j=k then some z else _)=_
     rw[aiB e];simp
    ·rw[aiA e]
     show (if j=k then some z else gw j (p::r))=_
     rw[aiA e]
def rj (lt:κ->κ->Bool) (k:κ):List κ->Nat
 | []=>0
 | p::r=>if lt p k=true then rj lt k r+1 else 0
theorem TW (k:κ):∀ l:List κ,rj lt k l<=l.length
 | []=>ahJ _
 | p::r=>by
  unfold rj
  split
  ·have:=TW k r;simp;omega
  ·simp
theorem SJ (k:κ) (z:Int):∀ R:List (κ×Int),dA lt k z R=(match R[rj lt k (R.map (·.1))]? with
 | some p=>if p.1=k then R.set (rj lt k (R.map (·.1))) (k,p.2+z) else R.take (rj lt k (R.map (·.1)))++(k,z)::R.drop (rj lt k (R.map (·.1)))
 | none=>R++[(k,z)])
 | []=>rfl
 | p::r=>by
  unfold dA
  rw[agY]
  unfold rj
  split
  ·rename_i hlt
   rw[agw,SJ k z r]
   cases hq:r[rj lt k (r.map (·.1))]? with
   | none=>rfl
   | some q=>
    dsimp only
    split<;>rfl
  ·rename_i hlt
   show _=(if p.1=k then _ else _)
   split
   ·rename_i e
    simp[e]
   ·rfl
end
def kg (a b:Tw):Bool:=decide (fK a b<0)
theorem Ay {a b:Tw}:kg a b=true↔fK a b<0:=by unfold kg;exact decide_eq_true_iff
theorem DA {a b c:Tw} (h1:fK a b<0) (h2:fK b c<0):fK a c<0:=by
 rw[Ec] at h1 h2 ⊢
 rcases h1 with h1 | ⟨e1,h1⟩<;>rcases h2 with h2 | ⟨e2,h2⟩
 ·exact .inl (er h1 h2)
 ·exact .inl (by rw[<- e2];exact h1)
 ·exact .inl (by rw[e1];exact h2)
 ·exact .inr ⟨e1.trans e2,er h1 h2⟩
theorem HU (a:Tw):¬ fK a a<0:=by
 rw[Ec]
 rintro (h | ⟨_,h⟩)<;>rw[dS] at h<;>cases h
theorem aav:SOr kg:=⟨fun a=>by
 cases h:kg a a with
 | false=>rfl
 | true=>exact absurd (Ay.1 h) (HU a),fun h1 h2=>Ay.2 (DA (Ay.1 h1) (Ay.1 h2)),
 fun a b=>by
  rcases AX a b with h | h | h
  ·exact .inl (Ay.2 h)
  ·exact .inr (.inl h)
  ·exact .inr (.inr (Ay.2 h))⟩
structure pW (R S:List (Tw×Int)):Prop where
 srt:tc kg R
 look:∀ k,gw k R=gC k S
 keys:∀ k,k∈R.map (·.1)↔k∈S.map (·.1)
theorem pW.nil:pW [] []:=⟨List.Pairwise.nil,fun _=>rfl,fun _=>Iff.rfl⟩
theorem RX (k:Tw) (z:Int) (j:Tw):∀ S:List (Tw×Int),gC j (jZ k z S)=if j=k then some ((gC k S).getD 0+z) else gC j S
 | []=>by
  by_cases e:j=k
  ·rw[aiB e];simp[jZ,gC,e]
  ·rw[aiA e];simp[jZ,gC,e]
 | p::r=>by
  unfold jZ
  split
  ·rename_i h
   by_cases e:j=k
   ·rw[aiB e]
    show (if j=k then some (p.2+z) else gC j r)=some (((if k=p.1 then some p.2 else gC k r)).getD 0+z)
    rw[aiB e,aiB h];rfl
   ·rw[aiA e]
    show (if j=k then some (p.2+z) else gC j r)=(if j=p.1 then some p.2 else gC j r)
    rw[aiA e,aiA (fun e2=>e (e2.trans h.symm))]
  ·rename_i h
   show (if j=p.1 then some p.2 else gC j (jZ k z r))=_
   rw[RX k z j r]
   by_cases e:j=k
   ·rw[aiB e,aiB e,aiA (fun e2=>h (e.symm.trans e2))]
    show _=some (((if k=p.1 then some p.2 else gC k r)).getD 0+z)
    rw[aiA h]
   ·rw[aiA e,aiA e];rfl
theorem VZ (k:Tw) (z:Int) (x:Tw):∀ S:List (Tw×Int),x∈(jZ k z S).map (·.1)↔x=k\/x∈S.map (·.1)
 | []=>by simp[jZ]
 | p::r=>by
  unfold jZ
  split
  ·rename_i h
   simp only[agY,ag3, <- h]
   constructor
   ·rintro (h | h)
    ·exact .inl h
    ·exact .inr (.inr h)
   ·rintro (h | h | h)
    ·exact .inl h
    ·exact .inl h
    ·exact .inr h
  ·rw[agY,ag3,VZ k z x r,agY,ag3]
   constructor
   ·rintro (h | h | h)
    ·exact .inr (.inl h)
    ·exact .inl h
    ·exact .inr (.inr h)
   ·rintro (h | h | h)
    ·exact .inr (.inl h)
    ·exact .inl h
    ·exact .inr (.inr h)
theorem pW.add {R S:List (Tw×Int)} (h:pW R S) (k:Tw) (z:Int):pW (dA kg k z R) (jZ k z S):=
 ⟨JU aav h.srt,fun j=>by rw[Fg aav j h.srt,RX,h.look,h.look],fun x=>by rw[LX,VZ,h.keys]⟩
theorem adt {S:List (Tw×Int)} (hnd:(S.map (·.1)).Nodup):(ksS S).Pairwise fun a b=>kg a b=true:=by
 have hs:(ksS S).Pairwise fun x y=>(!decide (fK y x<0))=true:=by
  refine ahn ?_ ?_ _
  ·intro a b c h1 h2
   rw[afE,air] at h1 h2 ⊢
   intro hca
   rcases AX b c with h | h | h
   ·exact h1 (DA h hca)
   ·rw[h] at h1;exact h1 hca
   ·exact h2 h
  ·intro a b
   rw[afI,afE,afE,air,air]
   rcases AX a b with h | h | h
   ·exact .inl fun h2=>HU _ (DA h h2)
   ·rw[h];exact .inl (HU _)
   ·exact .inr fun h2=>HU _ (DA h h2)
 have hn:(ksS S).Pairwise fun x y=>x≠y:=(Ga S).nodup_iff.2 hnd
 refine (hs.and hn).imp ?_
 intro a b ⟨h1,h2⟩
 rw[afE,air] at h1
 rcases AX a b with h | h | h
 ·exact Ay.2 h
 ·exact absurd h h2
 ·exact absurd h h1
theorem pW.ks {R S:List (Tw×Int)} (h:pW R S) (hnd:(S.map (·.1)).Nodup):R.map (·.1)=ksS S:=by
 refine Li aav ?_ (adt hnd) fun x=> ?_
 ·rw[ahm];exact h.srt
 ·rw[h.keys,(Ga S).mem_iff]
theorem Xj {R:List (Tw×Int)} (h:tc kg R) {p:Tw×Int} (hp:p∈R):gw p.1 R=some p.2:=by
 induction R with
 | nil=>cases hp
 | cons q r ih=>
  unfold tc at h
  rw[ahk] at h
  unfold gw
  rcases ag3.1 hp with rfl | hp
  ·rw[aiB rfl]
  ·rw[aiA (fun e=>by have:=h.1 p hp;rw[e,aav.irr] at this;cases this)]
   exact ih h.2 hp
theorem pW.val {R S:List (Tw×Int)} (h:pW R S) {p:Tw×Int} (hp:p∈R):QK S p.1=p.2:=by
 unfold QK
 rw[<- h.look,Xj h.srt hp];rfl
end Go.Md
set_option linter.all false
set_option maxRecDepth 20000
namespace Go.Md
open Go.Dn
theorem Mm {a:aG} (h:Ad a=0):∀ p∈a.2.2.2,aX p.2.2.2=0:=by
 unfold Ad at h
 split at h
 ·omega
 split at h
 ·omega
 split at h
 ·omega
 split at h
 ·omega
 split at h
 ·omega
 have h3:bV (vX a.2.2.2) 0 a.2.2.2=0:=by omega
 intro p hp
 obtain⟨i,hi⟩:=ag8.1 hp
 have:=gF h3 i p hi
 unfold vX at this
 split at this
 ·omega
 split at this
 ·omega
 split at this
 ·omega
 exact this
theorem abD {l:List aa} (h:aX l=0):∀ c∈l,qOk c.2.2.2 false=true:=by
 unfold aX at h
 split at h
 ·omega
 intro c hc
 obtain⟨j,hj⟩:=ag8.1 hc
 have:=gF h j c hj
 unfold E6 at this
 split at this
 ·omega
 split at this
 ·omega
 split at this
 ·omega
 split at this
 ·omega
 split at this
 ·rename_i hq;exact hq
 ·omega
def cLt (a b:aa):Prop:=Op.bytesLess a.1 b.1=true\/(a.1=b.1/\(Op.bytesLess a.2.1 b.2.1=true\/(a.2.1=b.2.1/\Op.bytesLess a.2.2.1 b.2.2.1=true)))
theorem PS {a b:aa}:bQ a b<0↔cLt a b:=by
 unfold bQ cLt
 have e1:= @eU a.1 b.1
 have e2:= @eU a.2.1 b.2.1
 have e3:= @eU a.2.2.1 b.2.2.1
 have z1:= @dM a.1 b.1
 have z2:= @dM a.2.1 b.2.1
 rw[<- e1, <- e2, <- e3, <- z1, <- z2]
 unfold bV
 by_cases h1:Lib.compareBytes a.1 b.1=0
 ·rw[aiB h1]
  unfold bV
  by_cases h2:Lib.compareBytes a.2.1 b.2.1=0
  ·rw[aiB h2]
   unfold bV
   by_cases h3:Lib.compareBytes a.2.2.1 b.2.2.1=0
   ·rw[aiB h3]
    unfold bV
    omega
   ·rw[aiA h3];omega
  ·rw[aiA h2];omega
 ·rw[aiA h1];omega
theorem E5 {a b c:aa} (h1:bQ a b<0) (h2:bQ b c<0):bQ a c<0:=by
 rw[PS] at h1 h2 ⊢
 unfold cLt at*
 rcases h1 with h1 | ⟨e1,h1⟩<;>rcases h2 with h2 | ⟨e2,h2⟩
 ·exact .inl (er h1 h2)
 ·exact .inl (by rw[<- e2];exact h1)
 ·exact .inl (by rw[e1];exact h2)
 ·right
  refine⟨e1.trans e2, ?_⟩
  rcases h1 with h1 | ⟨f1,h1⟩<;>rcases h2 with h2 | ⟨f2,h2⟩
  ·exact .inl (er h1 h2)
  ·exact .inl (by rw[<- f2];exact h1)
  ·exact .inl (by rw[f1];exact h2)
  ·exact .inr ⟨f1.trans f2,er h1 h2⟩
def k3 (c:aa):Bys×Bys×Bys:=(c.1,c.2.1,c.2.2.1)
theorem IU {a a' b b':aa} (h1:k3 a=k3 a') (h2:k3 b=k3 b'):bQ a b=bQ a' b':=by
 unfold k3 at h1 h2
 obtain⟨x1,x⟩:=Prod.mk.inj h1
 obtain⟨x2,x3⟩:=Prod.mk.inj x
 obtain⟨y1,y⟩:=Prod.mk.inj h2
 obtain⟨y2,y3⟩:=Prod.mk.inj y
 unfold bQ
 rw[x1,x2,x3,y1,y2,y3]
theorem Hh (a:aa):bQ a a=0:=by
 unfold bQ
 rw[dM.2 rfl,dM.2 rfl,dM.2 rfl];rfl
theorem DI {a b:aa} (h:bQ a b=0):k3 a=k3 b:=by
 unfold bQ at h
 have h1:=gF h 0 _ rfl
 have h2:=gF h 1 _ rfl
 have h3:=gF h 2 _ rfl
 unfold k3
 rw[dM.1 h1,dM.1 h2,dM.1 h3]
theorem ab6 {a b:aa} (h1:¬ bQ a b<0) (h2:¬ bQ a b=0):bQ b a<0:=by
 rw[PS]
 have h3:¬ cLt a b:=fun h=>h1 (PS.2 h)
 unfold cLt at*
 rcases sN a.1 b.1 with g | g | g
 ·exact absurd (.inl g) h3
 ·right
  refine⟨g.symm, ?_⟩
  rcases sN a.2.1 b.2.1 with g2 | g2 | g2
  ·exact absurd (.inr ⟨g,.inl g2⟩) h3
  ·right
   refine⟨g2.symm, ?_⟩
   rcases sN a.2.2.1 b.2.2.1 with g4 | g4 | g4
   ·exact absurd (.inr ⟨g,.inr ⟨g2,g4⟩⟩) h3
   ·exfalso
    apply h2
    rw[IU (a:=a) (a':=b) (b:=b) (b':=b) (by unfold k3;rw[g,g2,g4]) rfl,Hh]
   ·exact g4
  ·exact .inl g2
 ·exact .inl g
def LU (l:List aa):Prop:=l.Pairwise fun a b=>bQ a b<0
theorem JI {l:List aa} (h:aX l=0):LU l:=by
 unfold aX at h
 split at h
 ·omega
 have step:∀ i x y,l[i]? =some x->l[i+1]? =some y->bQ x y<0:=fun i x y hx hy=>by
  have:=gF h (i+1) y hy
  rw[ah7] at this
  unfold E6 at this
  split at this
  ·omega
  split at this
  ·omega
  split at this
  ·omega
  split at this
  ·omega
  rename_i hp
  unfold HB at hp
  dsimp only at hp
  rw[hx] at hp
  dsimp only at hp
  simp at hp
  omega
 unfold LU
 refine ahl.2 ?_
 have key:∀ (d i:Nat) x y,l[i]? =some x->l[i+d+1]? =some y->bQ x y<0:=by
  intro d
  induction d with
  | zero=>intro i x y hx hy;exact step i x y hx hy
  | succ d ih=>
   intro i x y hx hy
   have hlt:=(agB.1 hy).1
   have hz:l[i+d+1]? =some (l[i+d+1]'(by omega)):=agz _
   exact E5 (ih i x _ hx hz) (step (i+d+1) _ y hz (by rw[show i+d+1+1=i+(d+1)+1 by omega];exact hy))
 intro i j hi hj hij
 exact key (j - i - 1) i _ _ (agz hi) (by rw[show i+(j - i - 1)+1=j by omega];exact agz hj)
def nG (c:aa):List aa->Nat
 | []=>0
 | x::r=>if bQ x c<0 then nG c r+1 else 0
theorem TV (c:aa):∀ l,nG c l<=l.length
 | []=>ahJ _
 | x::r=>by
  unfold nG
  have:=TV c r
  split
  ·simp;omega
  ·simp
theorem Zp (c:aa):∀ (l:List aa) (k:Nat) (x:aa),k<nG c l->l[k]? =some x->bQ x c<0
 | [],_,_,_,h=>by simp at h
 | y::r,0,x,h,hx=>by
  unfold nG at h
  split at h
  ·cases hx;assumption
  ·omega
 | y::r,k+1,x,h,hx=>by
  unfold nG at h
  split at h
  ·exact Zp c r k x (by omega) (by simpa using hx)
  ·omega
theorem Zo (c:aa):∀ (l:List aa) (x:aa),l[nG c l]? =some x->¬ bQ x c<0
 | [],x,h=>by simp at h
 | y::r,x,h=>by
  unfold nG at h
  split at h
  ·exact Zo c r x (by simpa using h)
  ·cases h;assumption
theorem adD (c:aa) (l:List aa) (i:Nat) (hi:i<=l.length) (h1:∀ k x,k<i->l[k]? =some x->bQ x c<0) (h2:∀ x,l[i]? =some x->¬ bQ x c<0):nG c l=i:=by
 have hle:=TV c l
 rcases ahV (nG c l) i with h | h | h
 ·have hx:l[nG c l]? =some (l[nG c l]'(by omega)):=agz _
  exact absurd (h1 _ _ h hx) (Zo c l _ hx)
 ·exact h
 ·have hx:l[i]? =some (l[i]'(by omega)):=agz _
  exact absurd (Zp c l i _ h hx) (h2 _ hx)
theorem X6 (l:List aa) (c:aa) (hl:l.length<1000000000) (hs:LU l): ∃ b:Bool,cL l c ()=some ((nG c l:Int),b,())/\(b=true↔∃ y,l[nG c l]? =some y/\bQ y c=0):=by
 unfold cL
 have hss:∀ i j x y,i<j->l[i]? =some x->l[j]? =some y->bQ x y<0:=fun i j x y hij hx hy=>by
  obtain⟨i1,i2⟩:=agB.1 hx
  obtain⟨j1,j2⟩:=agB.1 hy
  have:=ahl.1 hs i j i1 j1 hij
  rw[i2,j2] at this;exact this
 have loop:∀ f,l.length<f->iter f ((l,(),(l.length:Int),(0:Int),(l.length:Int),c.1,c.2.1,c.2.2.1,c.2.2.2.1,c.2.2.2.2,()):bR) dG=some (Sum.inr (l,(),(l.length:Int),((nG c l:Nat):Int),c.1,c.2.1,c.2.2.1,c.2.2.2.1,c.2.2.2.2,())):=by
  intro f hf
  refine sP (Inv:=fun X=>∃ i j:Nat,X=((l,(),(l.length:Int),(i:Int),(j:Int),c.1,c.2.1,c.2.2.1,c.2.2.2.1,c.2.2.2.2,()):bR)/\i<=j/\j<=l.length/\(∀ k x,l[k]? =some x->k<i->bQ x c<0)/\∀ k x,l[k]? =some x->j<=k->¬ bQ x c<0)
   (fun X=>(X.2.2.2.2.1 - X.2.2.2.1).toNat)
   (fun _ r=>r=some (Sum.inr (l,(),(l.length:Int),((nG c l:Nat):Int),c.1,c.2.1,c.2.2.1,c.2.2.2.1,c.2.2.2.2,()))) ?_ f _ ⟨0,l.length,rfl,by omega,by omega,fun _ _ _ h=>absurd h (ah0 _),fun k x hk hle=>by have:=(agB.1 hk).1;omega⟩ (by dsimp only;omega)
  rintro _ again ⟨i,j,rfl,hij,hj,h1,h2⟩ ih
  dsimp only at ih
  unfold dG
  dsimp only
  by_cases hlt:i<j
  ·rw[av (by omega)]
   have em:w64 (Int.fdiv (bS (w64 ((i:Int)+(j:Int)))) (2 ^ 1))=(((i+j) / 2:Nat):Int):=by
    rw[au (n:=(i:Int)+(j:Int)) (by omega) (by omega),de (by omega) (by omega),afK _ (by omega),au (by omega) (by omega)]
    omega
   rw[em]
   have hm:(i+j) / 2<l.length:=by omega
   have hy:l[(i+j) / 2]? =some l[(i+j) / 2]:=aD hm
   have hmi:i<=(i+j) / 2/\(i+j) / 2<j:=by omega
   generalize (i+j) / 2=m at*
   generalize l[m]=y at hy
   rw[aV,hy,aib,eZ,aib]
   dsimp only
   have ec:bQ y (c.1,c.2.1,c.2.2.1,c.2.2.2.1,c.2.2.2.2)=bQ y c:=rfl
   rw[ec]
   by_cases hc:bQ y c<0
   ·rw[av hc,au (by omega) (by omega)]
    refine ih _ ⟨m+1,j,rfl,by omega,hj,fun k x hk hkm=> ?_,h2⟩ (by dsimp only;omega)
    rcases ahS.1 hkm with h | h
    ·exact E5 (hss k m x y h hk hy) hc
    ·subst h;rw[hy] at hk;cases hk;exact hc
   ·rw[ay hc]
    refine ih _ ⟨i,m,rfl,by omega,by omega,h1,fun k x hk hkm=> ?_⟩ (by dsimp only;omega)
    rcases ahP hkm with h | h
    ·exact fun hx=>hc (E5 (hss m k y x h hy hk) hx)
    ·subst h;rw[hy] at hk;cases hk;exact hc
  ·rw[ay (by omega)]
   have:i=j:=by omega
   subst this
   rw[adD c l i hj (fun k x hk hx=>h1 k x hx hk) (fun x hx=>h2 i x hx (ahJ _))]
 have h1:=loop (List.length l+(Int.natAbs ((List.length l:Int))+(Int.natAbs (0:Int)+(Int.natAbs ((List.length l:Int))+(c.1.length+(c.2.1.length+(c.2.2.1.length+(c.2.2.2.1.natAbs+(c.2.2.2.2.natAbs+2))))))))) (by omega)
 rw[h1,az]
 dsimp only
 have h2:=TV c l
 by_cases hi:nG c l<l.length
 ·have hy:l[nG c l]? =some l[nG c l]:=aD hi
  rw[av (by omega),aV,hy,aib,eZ,aib]
  dsimp only
  refine⟨_,rfl, ?_⟩
  have ec:bQ l[nG c l] (c.1,c.2.1,c.2.2.1,c.2.2.2.1,c.2.2.2.2)=bQ l[nG c l] c:=rfl
  rw[ec]
  constructor
  ·intro h
   exact⟨_,rfl,by simpa using h⟩
  ·rintro⟨y,e,h⟩
   rw[<- Option.some.inj e] at h
   simpa using h
 ·rw[ay (by omega)]
  refine⟨false,rfl,fun h=>(by cases h), ?_⟩
  rintro⟨y,e,_⟩
  rw[agA (by omega)] at e;cases e
end Go.Md
set_option linter.all false
set_option maxRecDepth 20000
namespace Go.Md
open Go.Dn
def qIn:List aa->aa->Int
 | [],_=>0
 | y::r,c=>if bQ y c=0 then v9 y.2.2.2 else qIn r c
theorem adF (c:aa):∀ l:List aa,LU l->qIn l c=match l[nG c l]? with
 | some y=>if bQ y c=0 then v9 y.2.2.2 else 0
 | none=>0:=by
 intro l
 induction l with
 | nil=>intro _;rfl
 | cons y r ih=>
  intro hs
  have hs':=ahk.1 hs
  unfold qIn nG
  by_cases h:bQ y c<0
  ·rw[aiA (by omega),aiB h,agw]
   exact ih hs'.2
  ·rw[aiA h]
   by_cases h0:bQ y c=0
   ·rw[aiB h0];simp[h0]
   ·rw[aiA h0]
    have hz:∀ r':List aa,(∀ x∈r',bQ y x<0)->qIn r' c=0:=by
     intro r'
     induction r' with
     | nil=>intro _;rfl
     | cons x r' ih2=>
      intro hx
      unfold qIn
      have h1:=hx x ag5
      rw[aiA (fun e=> ?_)]
      ·exact ih2 fun z hz=>hx z (ag4 _ hz)
      ·have h2:bQ y c<0:=by
        rw[IU (show k3 y=k3 y from rfl) (DI e).symm];exact h1
       exact h h2
    rw[hz r hs'.1]
    simp[h0]
theorem Ev {l:List aa} (hl:l.length<=1000) (hs:LU l) (hd:∀ c∈l,cc c.2.2.2) (c:aa):kO l c=some (W (qIn l c),()):=by
 unfold kO
 obtain⟨b,g1,g2⟩:=X6 l c (by omega) hs
 rw[g1,aib]
 dsimp only
 rw[adF c l hs]
 cases b with
 | false=>
  rw[afF,aio,vp 0 (by decide) (by decide),aib]
  cases hy:l[nG c l]? with
  | none=>rfl
  | some y=>
   have:¬ bQ y c=0:=fun e=>by have:=g2.2 ⟨y,hy,e⟩;cases this
   dsimp only
   rw[aiA this]
 | true=>
  obtain⟨y,hy,e⟩:=g2.1 rfl
  rw[afG,ain,aV,hy,aib,A6 (hd y (aha hy)),aib]
  dsimp only
  rw[aiB e]
theorem Vv {l:List aa} (hl:l.length<=1000) (hd:∀ c∈l,cc c.2.2.2) (c:aa):yh l c=some (N (qIn l c),()):=by
 unfold yh
 have loop:∀ (r:List aa) (i f:Nat),l.drop i=r->i<=l.length->r.length<f->
  (∃ y:aa,qIn r c=v9 y.2.2.2/\iter (X:=iM) (β:=iL) f (l,(l.length:Int),(i:Int),c.1,c.2.1,c.2.2.1,c.2.2.2.1,c.2.2.2.2,false,[],()) gy=some (Sum.inl (N (v9 y.2.2.2),())))\/
  (qIn r c=0/\iter (X:=iM) (β:=iL) f (l,(l.length:Int),(i:Int),c.1,c.2.1,c.2.2.1,c.2.2.2.1,c.2.2.2.2,false,[],()) gy=some (Sum.inr (false,[],()))):=by
  intro r
  induction r with
  | nil=>
   intro i f hdr hi hf
   have:i=l.length:=by
    have:=congrArg List.length hdr
    simp at this;omega
   obtain⟨f,rfl⟩:∃ m,f=m+1:=⟨f - 1,by omega⟩
   right
   refine⟨rfl, ?_⟩
   rw[aY]
   unfold gy
   dsimp only
   rw[ay (by omega)]
  | cons x r ih=>
   intro i f hdr hi hf
   have hx:l[i]? =some x:=by
    have:=congrArg (·[0]?) hdr
    simpa [agy] using this
   have hr':l.drop (i+1)=r:=by
    have:=congrArg List.tail hdr
    simpa [ahr] using this
   have hlt:=(agB.1 hx).1
   obtain⟨f,rfl⟩:∃ m,f=m+1:=⟨f - 1,by simp at hf;omega⟩
   simp only[agN] at hf
   have step:∀ R,(iter (X:=iM) (β:=iL) (f+1) (l,(l.length:Int),(i:Int),c.1,c.2.1,c.2.2.1,c.2.2.2.1,c.2.2.2.2,false,[],()) gy=R↔(if bQ x c=0 then some (Sum.inl (N (v9 x.2.2.2),())) else iter (X:=iM) (β:=iL) f (l,(l.length:Int),((i+1:Nat):Int),c.1,c.2.1,c.2.2.1,c.2.2.2.1,c.2.2.2.2,false,[],()) gy)=R):=by
    intro R
    rw[aY]
    generalize hag:(fun y=>iter f y gy)=again
    unfold gy
    dsimp only
    rw[av (by omega),aV,hx,aib,lF,aib]
    dsimp only
    rw[show bQ x (c.1,c.2.1,c.2.2.1,c.2.2.2.1,c.2.2.2.2)=bQ x c from rfl]
    by_cases h:bQ x c=0
    ·rw[show (bQ x c==0)=true by simpa using h,aio,aiB h,xe (hd x (aha hx)),aib]
    ·rw[show (bQ x c==0)=false by simpa using h,ain,aiA h,au (n:=(i:Int)+1) (by omega) (by omega),show (i:Int)+1=((i+1:Nat):Int) by omega, <- hag]
     exact Iff.rfl
   unfold qIn
   by_cases h:bQ x c=0
   ·left
    refine⟨x,by rw[aiB h], ?_⟩
    rw[step,aiB h]
   ·rw[aiA h]
    rcases ih (i+1) f hr' (by omega) (by omega) with ⟨y,h1,h2⟩ | ⟨h1,h2⟩
    ·exact .inl ⟨y,h1,by rw[step,aiA h];exact h2⟩
    ·exact .inr ⟨h1,by rw[step,aiA h];exact h2⟩
 rcases loop l 0 (List.length l+(Int.natAbs ((List.length l:Int))+(Int.natAbs (0:Int)+(c.1.length+(c.2.1.length+(c.2.2.1.length+(c.2.2.2.1.natAbs+(c.2.2.2.2.natAbs+(List.length ([]:List Int)+2))))))))) rfl (ah8 _) (by omega) with ⟨y,h1,h2⟩ | ⟨h1,h2⟩
 ·rw[show ((0:Nat):Int)=0 from rfl] at h2
  rw[h2,iN,h1]
 ·rw[show ((0:Nat):Int)=0 from rfl] at h2
  rw[h2,az,h1];rfl
theorem abB {l:List aa} (hd:∀ c∈l,cc c.2.2.2) (c:aa):(qIn l c).natAbs<=10 ^ 24:=by
 induction l with
 | nil=>exact ah8 _
 | cons x r ih=>
  unfold qIn
  split
  ·exact Ot (hd x ag5)
  ·exact ih fun z hz=>hd z (ag4 _ hz)
def Fi (l:List aj) (i:Nat) (y:aj):Bool:=match i with
 | 0=>false
 | i+1=>match l[i]? with
  | some p=>Op.bytesLess y.1 p.1||y.1==p.1
  | none=>false
def sF (l:List aj) (i:Nat) (s:aj):Int:=
 if lbl s.1=false then 3 else if Fi l i s=true then 8 else if s.2.1=true/\0<s.2.2.1.length+s.2.2.2.length then 3
 else if aX s.2.2.1≠0 then aX s.2.2.1 else if aX s.2.2.2≠0 then aX s.2.2.2
 else if s.2.2.2.any (fun c=>decide (qIn s.2.2.1 c<v9 c.2.2.2))=true then 12 else 0
def oz (l:List aj):Int:=if 500<l.length then 2 else bV (sF l) 0 l
theorem uI {l:List aa} (h:aX l=0):∀ c∈l,cc c.2.2.2:=fun c hc=>(abE (abD h c hc)).dec
theorem cA {l:List aa} (h:aX l=0):l.length<=100:=by
 unfold aX at h
 split at h
 ·omega
 ·omega
theorem XL (l:List aj) (hl:l.length<=500) (i:Nat) (s:aj) (hs:l[i]? =some s) (hsl:s.1.length<=9223372036854775807) (hcl:s.2.2.1.length<=4000000000000/\s.2.2.2.length<=4000000000000):tZ l (i:Int)=some (sF l i s,()):=by
 have hi:=(agB.1 hs).1
 unfold tZ sF
 rw[aV,hs,aib,ER _ hsl,aib]
 dsimp only
 cases hlb:lbl s.1 with
 | false=>rw[afF,aio,aiB rfl]
 | true=>
 rw[afG,ain,aiA (by simp)]
 have hprev:(bif decide ((i:Int)>0) then Option.bind (idx l (w64 ((i:Int) - 1))) fun y3=>some (Op.bytesLess s.1 y3.1||s.1==y3.1,()) else some (false,()))=some (Fi l i s,()):=by
  cases i with
  | zero=>rfl
  | succ j=>
   have hj:l[j]? =some (l[j]'(by omega)):=agz _
   rw[av (by omega),AT (by omega) (by omega),hj,aib]
   unfold Fi
   dsimp only
   rw[hj]
 rw[hprev,aib]
 dsimp only
 cases hp:Fi l i s with
 | true=>rw[aio,aiB rfl]
 | false=>
 rw[ain,aiA (by simp),au (n:=((s.2.2.1.length:Nat):Int)+((s.2.2.2.length:Nat):Int)) (by omega) (by omega)]
 have hse:(bif s.2.1 then some (decide (((s.2.2.1.length:Nat):Int)+((s.2.2.2.length:Nat):Int)>0),()) else some (false,()))=some (decide (s.2.1=true/\0<s.2.2.1.length+s.2.2.2.length),()):=by
  cases h:s.2.1 with
  | true=>
   rw[aio]
   congr 2
   by_cases h2:0<s.2.2.1.length+s.2.2.2.length
   ·rw[ais (by omega),ais ⟨rfl,h2⟩]
   ·rw[aiq (by omega),aiq (fun e=>h2 e.2)]
  | false=>rw[ain,aiq (by simp)]
 rw[hse,aib]
 dsimp only
 by_cases h3:s.2.1=true/\0<s.2.2.1.length+s.2.2.2.length
 ·rw[ais h3,aio,aiB h3]
 rw[aiq h3,ain,aiA h3]
 have l9:∀ f,2<f->iter (X:=oW) (β:=oV) f (((2:Nat):Int),0,s.1,s.2.1,s.2.2.1,s.2.2.2,[s.2.2.1,s.2.2.2],()) vF=some (if aX s.2.2.1≠0 then Sum.inl (aX s.2.2.1,()) else if aX s.2.2.2≠0 then Sum.inl (aX s.2.2.2,()) else Sum.inr (s.1,s.2.1,s.2.2.1,s.2.2.2,())):=by
  intro f hf
  obtain⟨f,rfl⟩:∃ m,f=m+3:=⟨f - 3,by omega⟩
  rw[aY]
  unfold vF
  dsimp only
  rw[av (by omega),aH (by rfl),show ([s.2.2.1,s.2.2.2]:List (List aa))[(0:Int).toNat]? =some s.2.2.1 from rfl,aib,pF,aib]
  dsimp only
  by_cases h1:aX s.2.2.1=0
  rotate_left
  ·rw[show (aX s.2.2.1 != 0)=true by simpa using h1,aio,aiB h1]
  rw[show (aX s.2.2.1 != 0)=false by simpa using h1,ain,aiA (by simpa using h1),au (n:=(0:Int)+1) (by omega) (by omega),aY]
  dsimp only
  rw[av (by omega),aH (by rfl),show ([s.2.2.1,s.2.2.2]:List (List aa))[(0+1:Int).toNat]? =some s.2.2.2 from rfl,aib,pF,aib]
  dsimp only
  by_cases h2:aX s.2.2.2=0
  rotate_left
  ·rw[show (aX s.2.2.2 != 0)=true by simpa using h2,aio,aiB h2]
  rw[show (aX s.2.2.2 != 0)=false by simpa using h2,ain,aiA (by simpa using h2),au (n:=(0:Int)+1+1) (by omega) (by omega),aY]
  dsimp only
  rw[ay (by omega)]
 rw[show ((([s.2.2.1,s.2.2.2]:List (List aa)).length:Nat):Int)=((2:Nat):Int) from rfl,l9 _ (by simp only[agN,agQ];omega)]
 by_cases h1:aX s.2.2.1=0
 rotate_left
 ·rw[aiB h1,iN,aiB h1]
 have n1:¬ aX s.2.2.1≠0:=by simpa using h1
 rw[aiA n1,aiA n1]
 by_cases h2:aX s.2.2.2=0
 rotate_left
 ·rw[aiB h2,iN,aiB h2]
 have n2:¬ aX s.2.2.2≠0:=by simpa using h2
 rw[aiA n2,aiA n2,az]
 dsimp only
 have len1:=cA h1
 have len2:=cA h2
 have sm:∀ z:Int,z.natAbs<=10 ^ 24->z.natAbs<4294967296 ^ 99:=fun z h=>by
  have h1:(10:Nat) ^ 24<4294967296 ^ 99:=by decide
  omega
 have l16:∀ f,s.2.2.2.length<f->iter (X:=kI) (β:=nF) f (s.2.2.2,(s.2.2.2.length:Int),0,s.1,s.2.1,s.2.2.1,s.2.2.2,()) nE=some (if s.2.2.2.any (fun c=>decide (qIn s.2.2.1 c<v9 c.2.2.2))=true then Sum.inl (12,()) else Sum.inr ()):=by
  intro f hf
  refine bn (Inv:=fun i X=>X=((s.2.2.2,(s.2.2.2.length:Int),(i:Int),s.1,s.2.1,s.2.2.1,s.2.2.2,()):kI)/\(s.2.2.2.take i).any (fun c=>decide (qIn s.2.2.1 c<v9 c.2.2.2))=false) s.2.2.2.length (fun r=>r=some (if s.2.2.2.any (fun c=>decide (qIn s.2.2.1 c<v9 c.2.2.2))=true then Sum.inl (12,()) else Sum.inr ())) ?_ ?_ f 0 _ ⟨rfl,by simp⟩ (by omega) (by omega)
  ·rintro i X again hi ⟨rfl,hI⟩ hag
   unfold nE
   dsimp only
   have hy:s.2.2.2[i]? =some s.2.2.2[i]:=agz hi
   have hdy:=uI h2 _ (agL hi)
   rw[av (by omega),aV,hy,aib,A6 hdy,aib,Ev (by omega) (JI h1) (uI h1),aib]
   dsimp only
   rw[KY _ _ (sm _ (Ot hdy)) (sm _ (abB (uI h1) _)),aib]
   dsimp only
   by_cases hlt:qIn s.2.2.1 s.2.2.2[i]<v9 s.2.2.2[i].2.2.2
   ·rw[ais (by rw[afV (by omega)];decide),aio,aiB (af2.2 ⟨_,agL hi,ais hlt⟩)]
   ·have hn:¬ (v9 s.2.2.2[i].2.2.2 - qIn s.2.2.1 s.2.2.2[i]).sign>0:=by
     rcases Int.lt_trichotomy (v9 s.2.2.2[i].2.2.2) (qIn s.2.2.1 s.2.2.2[i]) with h | h | h
     ·rw[afU (by omega)];decide
     ·rw[h,Int.sub_self];decide
     ·omega
    rw[aiq hn,ain,au (by omega) (by omega)]
    refine hag _ ⟨rfl, ?_⟩
    rw[List.take_add_one,hy,List.any_append,hI]
    simp[hlt]
  ·rintro X again ⟨rfl,hI⟩
   unfold nE
   dsimp only
   rw[ay (by omega)]
   rw[ahv] at hI
   rw[aiA (by rw[hI];simp)]
 rw[l16 _ (by omega)]
 by_cases h12:s.2.2.2.any (fun c=>decide (qIn s.2.2.1 c<v9 c.2.2.2))=true
 ·rw[aiB h12,aiB h12,iN]
 ·rw[aiA h12,aiA h12,az]
end Go.Md
set_option linter.all false
set_option maxRecDepth 20000
namespace Go.Md
open Go.Dn
def LQ (l:List aj):Prop:=∀ s∈l,s.1.length<=9223372036854775807/\s.2.2.1.length<=4000000000000/\s.2.2.2.length<=4000000000000
theorem tP (l:List aj) (hf:LQ l):kL l=some (oz l,()):=by
 unfold kL oz
 by_cases hb:500<l.length
 ·rw[av (by omega),aiB hb]
 ·rw[ay (by omega),aiA hb]
  rw[gA (f:=nA) (fun i=>((l,(l.length:Int),(i:Int),()):nB)) l (sF l) () ?_ ?_ ?_ _ ?_]
  ·exact On _ _
  ·rfl
  ·intro i y again hy
   have hi:=(agB.1 hy).1
   have hfy:=hf y (aha hy)
   unfold nA
   dsimp only
   rw[av (by omega),XL l (by omega) i y hy hfy.1 hfy.2,aib]
   dsimp only
   rw[au (n:=(i:Int)+1) (by omega) (by omega),show (i:Int)+1=((i+1:Nat):Int) by omega]
   by_cases h:sF l i y=0
   ·rw[h,aiB rfl];rfl
   ·rw[show (sF l i y != 0)=true by simpa using h,aio,aiA h]
  ·intro again
   unfold nA
   dsimp only
   rw[ay (by omega)]
  ·omega
theorem aag (l1 l2:List aj) (q1 q2:Int) (s:aj) (h1:aX s.2.2.1=0) (h2:aX s.2.2.2=0) (f:Nat) (hf:s.2.2.2.length<f): iter (X:=mB) (β:=qB) f (l1,l2,q1,q2,s.2.2.2,(s.2.2.2.length:Int),0,s.1,s.2.1,s.2.2.1,s.2.2.2,()) qA=(if s.2.2.2.any (fun c=>decide (qIn s.2.2.1 c<v9 c.2.2.2))=true then F9 (some (Sum.inl (12,()))) else some (Sum.inr (l1,l2,q1,q2,()))):=by
 have len1:=cA h1
 have len2:=cA h2
 have sm:∀ z:Int,z.natAbs<=10 ^ 24->(dg6 z.natAbs).length<10000:=fun z h=>ahU (Le.n (k:=24) h (by omega)) (by omega)
 refine bn (Inv:=fun i X=>X=((l1,l2,q1,q2,s.2.2.2,(s.2.2.2.length:Int),(i:Int),s.1,s.2.1,s.2.2.1,s.2.2.2,()):mB)/\(s.2.2.2.take i).any (fun c=>decide (qIn s.2.2.1 c<v9 c.2.2.2))=false) s.2.2.2.length (fun r=>r=(if s.2.2.2.any (fun c=>decide (qIn s.2.2.1 c<v9 c.2.2.2))=true then F9 (some (Sum.inl (12,()))) else some (Sum.inr (l1,l2,q1,q2,())))) ?_ ?_ f 0 _ ⟨rfl,by simp⟩ (by omega) (by omega)
 ·rintro i X again hi ⟨rfl,hI⟩ hag
  unfold qA
  dsimp only
  have hy:s.2.2.2[i]? =some s.2.2.2[i]:=agz hi
  have hdy:=uI h2 _ (agL hi)
  rw[av (by omega),aV,hy,aib,show iO s.2.2.2[i].2.2.2=_ from xe hdy,aib,Vv (by omega) (uI h1),aib]
  dsimp only
  rw[Nj _ _ (sm _ (Ot hdy)) (sm _ (abB (uI h1) _)),aib]
  dsimp only
  by_cases hlt:qIn s.2.2.1 s.2.2.2[i]<v9 s.2.2.2[i].2.2.2
  ·rw[ais (by rw[afV (by omega)];decide),aio,aiB (af2.2 ⟨_,agL hi,ais hlt⟩)]
  ·have hn:¬ (v9 s.2.2.2[i].2.2.2 - qIn s.2.2.1 s.2.2.2[i]).sign>0:=by
    rcases Int.lt_trichotomy (v9 s.2.2.2[i].2.2.2) (qIn s.2.2.1 s.2.2.2[i]) with h | h | h
    ·rw[afU (by omega)];decide
    ·rw[h,Int.sub_self];decide
    ·omega
   rw[aiq hn,ain,au (by omega) (by omega)]
   refine hag _ ⟨rfl, ?_⟩
   rw[List.take_add_one,hy,List.any_append,hI]
   simp[hlt]
 ·rintro X again ⟨rfl,hI⟩
  unfold qA
  dsimp only
  rw[ay (by omega)]
  rw[ahv] at hI
  rw[aiA (by rw[hI];simp)]
theorem yH (l:List aj) (hf:LQ l):r0 l=some (oz l,()):=by
 unfold r0 oz
 by_cases hb:500<l.length
 ·rw[av (by omega),aiB hb]
 ·rw[ay (by omega),aiA hb]
  rw[gA (f:=rC) (fun i=>((l,l,(l.length:Int),(i:Int),()):rD)) l (sF l) () ?_ ?_ ?_ _ ?_]
  ·exact On _ _
  ·rfl
  ·intro i s again hs
   have hi:=(agB.1 hs).1
   have hfy:=hf s (aha hs)
   unfold rC sF
   dsimp only
   rw[av (by omega),aV,hs,aib,Jl _ hfy.1,aib]
   dsimp only
   cases hlb:lbl s.1 with
   | false=>rw[afF,aio,aiB rfl,aiA (by decide)]
   | true=>
   rw[afG,ain,aiA (show ¬ (true=false) by simp)]
   have hprev:(bif decide ((i:Int)>0) then Option.bind (idx l (w64 ((i:Int) - 1))) fun y3=>some (Op.bytesLess s.1 y3.1||s.1==y3.1,()) else some (false,()))=some (Fi l i s,()):=by
    cases i with
    | zero=>rfl
    | succ j=>
     have hj:l[j]? =some (l[j]'(by omega)):=agz _
     rw[av (by omega),AT (by omega) (by omega),hj,aib]
     unfold Fi
     dsimp only
     rw[hj]
   rw[hprev,aib]
   dsimp only
   cases hp:Fi l i s with
   | true=>rw[aio,aiB rfl,aiA (by decide)]
   | false=>
   rw[ain,aiA (show ¬ (false=true) by simp),au (n:=((s.2.2.1.length:Nat):Int)+((s.2.2.2.length:Nat):Int)) (by omega) (by omega)]
   have hse:(bif s.2.1 then some (decide (((s.2.2.1.length:Nat):Int)+((s.2.2.2.length:Nat):Int)>0),()) else some (false,()))=some (decide (s.2.1=true/\0<s.2.2.1.length+s.2.2.2.length),()):=by
    cases h:s.2.1 with
    | true=>
     rw[aio]
     congr 2
     by_cases h2:0<s.2.2.1.length+s.2.2.2.length
     ·rw[ais (by omega),ais ⟨rfl,h2⟩]
     ·rw[aiq (by omega),aiq (fun e=>h2 e.2)]
    | false=>rw[ain,aiq (by simp)]
   rw[hse,aib]
   dsimp only
   by_cases h3:s.2.1=true/\0<s.2.2.1.length+s.2.2.2.length
   ·rw[ais h3,aio,aiB h3,aiA (by decide)]
   rw[aiq h3,ain,aiA h3,uk,aib]
   dsimp only
   by_cases h1:aX s.2.2.1=0
   rotate_left
   ·rw[show (aX s.2.2.1 != 0)=true by simpa using h1,aio,aiB (show aX s.2.2.1≠0 from h1),aiA h1]
   have n1:¬ aX s.2.2.1≠0:=by simpa using h1
   rw[aiA n1,show (aX s.2.2.1 != 0)=false by simpa using h1,ain,uk,aib]
   dsimp only
   by_cases h2:aX s.2.2.2=0
   rotate_left
   ·rw[show (aX s.2.2.2 != 0)=true by simpa using h2,aio,aiB (show aX s.2.2.2≠0 from h2),aiA h2]
   have n2:¬ aX s.2.2.2≠0:=by simpa using h2
   rw[aiA n2,show (aX s.2.2.2 != 0)=false by simpa using h2,ain,aag l l _ _ s h1 h2 _ (by omega)]
   by_cases h12:s.2.2.2.any (fun c=>decide (qIn s.2.2.1 c<v9 c.2.2.2))=true
   ·rw[aiB h12,aiB h12]
    rfl
   ·rw[aiA h12,aiA h12,az]
    dsimp only
    rw[au (n:=(i:Int)+1) (by omega) (by omega),show (i:Int)+1=((i+1:Nat):Int) by omega,aiB rfl]
  ·intro again
   unfold rC
   dsimp only
   rw[ay (by omega)]
  ·omega
end Go.Md
set_option linter.all false
set_option maxRecDepth 20000
namespace Go.Md
open Go.Dn
theorem Wb (l:List aj) (t:Bys) (hl:l.length<1000000000) (hs:Asc (·.1) l): ∃ i:Nat,cM l t ()=some ((i:Int),(cq (·.1) t l).isSome,())/\∀ k,cq (·.1) t l=some k->i=k:=by
 unfold cM
 have loop:∀ f,l.length<f->∃ i:Nat,iter f ((l,t,(),(l.length:Int),(0:Int),(l.length:Int),()):cw) fq=some (Sum.inr (l,t,(),(l.length:Int),(i:Int),()))/\i<=l.length/\(∀ k x,l[k]? =some x->k<i->Op.bytesLess x.1 t=true)/\∀ k x,l[k]? =some x->i<=k->Op.bytesLess x.1 t=false:=by
  intro f hf
  refine sP (Inv:=fun X=>∃ i j:Nat,X=((l,t,(),(l.length:Int),(i:Int),(j:Int),()):cw)/\i<=j/\j<=l.length/\(∀ k x,l[k]? =some x->k<i->Op.bytesLess x.1 t=true)/\∀ k x,l[k]? =some x->j<=k->Op.bytesLess x.1 t=false)
   (fun X=>(X.2.2.2.2.2.1 - X.2.2.2.2.1).toNat)
   (fun _ r=>∃ i:Nat,r=some (Sum.inr (l,t,(),(l.length:Int),(i:Int),()))/\i<=l.length/\(∀ k x,l[k]? =some x->k<i->Op.bytesLess x.1 t=true)/\∀ k x,l[k]? =some x->i<=k->Op.bytesLess x.1 t=false) ?_ f _ ⟨0,l.length,rfl,by omega,by omega,fun _ _ _ h=>absurd h (ah0 _),fun k x hk hle=>by have:=(agB.1 hk).1;omega⟩ (by dsimp only;omega)
  rintro _ again ⟨i,j,rfl,hij,hj,h1,h2⟩ ih
  dsimp only at ih
  unfold fq
  dsimp only
  by_cases hlt:i<j
  ·rw[av (by omega)]
   have em:w64 (Int.fdiv (bS (w64 ((i:Int)+(j:Int)))) (2 ^ 1))=(((i+j) / 2:Nat):Int):=by
    rw[au (n:=(i:Int)+(j:Int)) (by omega) (by omega),de (by omega) (by omega),afK _ (by omega),au (by omega) (by omega)]
    omega
   rw[em]
   have hm:(i+j) / 2<l.length:=by omega
   have hy:l[(i+j) / 2]? =some l[(i+j) / 2]:=aD hm
   have hmi:i<=(i+j) / 2/\(i+j) / 2<j:=by omega
   generalize (i+j) / 2=m at*
   generalize l[m]=y at hy
   rw[aV,hy,aib]
   show ∃ i,Option.bind (Option.bind (some (Lib.compareBytes y.1 t,())) fun r1=>some (r1.1,())) _=_/\_
   rw[aib,aib]
   dsimp only
   by_cases hc:Lib.compareBytes y.1 t<0
   ·rw[av hc,au (by omega) (by omega)]
    refine ih _ ⟨m+1,j,rfl,by omega,hj,fun k x hk hkm=> ?_,h2⟩ (by dsimp only;omega)
    rcases ahS.1 hkm with h | h
    ·have:=hs k m x y h hk hy
     exact er this (eU.1 hc)
    ·subst h;rw[hy] at hk;cases hk;exact eU.1 hc
   ·rw[ay hc]
    refine ih _ ⟨i,m,rfl,by omega,by omega,h1,fun k x hk hkm=> ?_⟩ (by dsimp only;omega)
    have hc':Op.bytesLess y.1 t=false:=by
     cases h:Op.bytesLess y.1 t with
     | false=>rfl
     | true=>exact absurd (eU.2 h) hc
    rcases ahP hkm with h | h
    ·cases hx:Op.bytesLess x.1 t with
     | false=>rfl
     | true=>rw[er (hs m k y x h hy hk) hx] at hc';cases hc'
    ·subst h;rw[hy] at hk;cases hk;exact hc'
  ·rw[ay (by omega)]
   have:i=j:=by omega
   subst this
   exact⟨i,rfl,hj,h1,h2⟩
 obtain⟨i,h1,h2,h3,h4⟩:=loop (List.length l+(List.length t+(Int.natAbs ((List.length l:Int))+(Int.natAbs (0:Int)+(Int.natAbs ((List.length l:Int))+2))))) (by omega)
 refine⟨i, ?_,fun k hk=> ?_⟩
 ·rw[h1,az]
  dsimp only
  by_cases hi:i<l.length
  ·have hy:l[i]? =some l[i]:=aD hi
   generalize l[i]=y at hy
   rw[av (by omega),aV,hy,aib]
   show Option.bind (Option.bind (some (Lib.compareBytes y.1 t,())) fun r1=>some (r1.1,())) _=_
   rw[aib,aib]
   congr 3
   by_cases he:y.1=t
   ·rw[N9 hs hy he,dM.2 he];rfl
   ·have hne:¬ Lib.compareBytes y.1 t=0:=fun h=>he (dM.1 h)
    rw[show (Lib.compareBytes y.1 t==0)=false by simpa using hne]
    cases hx:cq (·.1) t l with
    | none=>rfl
    | some k=>
     exfalso
     obtain⟨x,k1,k2⟩:=fM hx
     rcases ahV k i with h | h | h
     ·have:=h3 k x k1 h;rw[k2,dS] at this;cases this
     ·subst h;rw[hy] at k1;cases k1;exact he k2
     ·have:=hs i k y x h hy k1
      dsimp only at this
      rw[k2,h4 i y hy (ahJ _)] at this;cases this
  ·rw[ay (by omega)]
   congr 3
   cases hx:cq (·.1) t l with
   | none=>rfl
   | some k=>
    exfalso
    obtain⟨x,k1,k2⟩:=fM hx
    have:=h3 k x k1 (by have:=(agB.1 k1).1;omega)
    rw[k2,dS] at this;cases this
 ·obtain⟨x,k1,k2⟩:=fM hk
  rcases ahV k i with h | h | h
  ·have:=h3 k x k1 h;rw[k2,dS] at this;cases this
  ·exact h.symm
  ·have hy:l[i]? =some (l[i]'(by have:=(agB.1 k1).1;omega)):=aD _
   have:=hs i k _ x h hy k1
   dsimp only at this
   rw[k2,h4 i _ hy (ahJ _)] at this;cases this
theorem T9 (a:aG) {S:List aj} (hl:S.length<=500) (hs:Asc (·.1) S) (t:Bys): (∃ s,s∈S/\s.1=t/\iX (a,S) t=some (s,true,())/\gO (a,S,()) t=some (s,true,(a,S,()),()))\/ ((∀ s,s∈S->s.1≠t)/\iX (a,S) t=some (([],false,[],[]),false,())/\gO (a,S,()) t=some (([],false,[],[]),false,(a,S,()),())):=by
 obtain⟨i,h1,h2⟩:=Wb S t (by omega) hs
 unfold iX gO
 dsimp only
 rw[h1,aib,aib]
 dsimp only
 cases hx:cq (fun x:aj=>x.1) t S with
 | none=>
  right
  exact⟨fun s hs=>MV hx s hs,rfl,rfl⟩
 | some k=>
  left
  obtain⟨s,hk,he⟩:=fM hx
  have:=h2 k hx
  subst this
  refine⟨s,aha hk,he, ?_, ?_⟩
  ·rw[show (!(some i).isSome)=false from rfl,ain,aV,hk];rfl
  ·rw[show (!(some i).isSome)=false from rfl,ain,aV,hk];rfl
theorem Nv (S:List aj) (t:Bys) (hl:S.length<1000000000):yj S t=some (ixI (cq (fun s:aj=>s.1) t S),()):=by
 unfold yj
 have loop:∀ f,S.length<f->iter f ((t,S,(S.length:Int),(0:Int),()):uU) zN=(match cq (fun s:aj=>s.1) t S with | some k=>some (Sum.inl ((k:Int),())) | none=>some (Sum.inr ())):=by
  intro f hf
  refine bn (Inv:=fun i X=>X=((t,S,(S.length:Int),(i:Int),()):uU)/\∀ (j:Nat) (x:aj),j<i->S[j]? =some x->x.1≠t) S.length (fun r=>r=(match cq (fun s:aj=>s.1) t S with | some k=>some (Sum.inl ((k:Int),())) | none=>some (Sum.inr ()))) ?_ ?_ f 0 _ ⟨rfl,fun j x h=>absurd h (ah0 _)⟩ (by omega) (by omega)
  ·rintro i X again hi ⟨rfl,hb⟩ ih
   unfold zN
   dsimp only
   have hy:S[i]? =some S[i]:=aD hi
   rw[av (by omega),aV,hy,aib]
   by_cases he:S[i].1=t
   ·have:cq (fun s:aj=>s.1) t S=some i:=by
     unfold cq
     rw[ago]
     refine⟨hi,by simpa using he,fun j hj=> ?_⟩
     have:=hb j _ hj (aD (by omega))
     simpa using this
    rw[this,show (S[i].1==t)=true by simpa using he,aio]
   ·rw[show (S[i].1==t)=false by simpa using he,ain,au (by omega) (by omega)]
    refine ih _ ⟨rfl,fun j x hj hx=> ?_⟩
    rcases ahS.1 hj with h | h
    ·exact hb j x h hx
    ·subst h;rw[hy] at hx;cases hx;exact he
  ·rintro X again ⟨rfl,hb⟩
   unfold zN
   dsimp only
   rw[ay (by omega)]
   have:cq (fun s:aj=>s.1) t S=none:=by
    unfold cq
    rw[agn]
    intro x hx
    obtain⟨j,hj⟩:=ag8.1 hx
    have:=hb j x (agB.1 hj).1 hj
    simpa using this
   rw[this]
 rw[loop _ (by omega)]
 cases cq (fun s:aj=>s.1) t S<;>rfl
def Ba (l:List ak) (S:List aj):Nat->Nat->Bool
 | 0,_=>false
 | m+1,i=>match l[i]? with
  | none=>false
  | some p=>if (cq (fun s:aj=>s.1) p.1 S).isSome=true then true else if p.2.1=[] then false else match par l i with
   | none=>false
   | some k=>Ba l S m k&&(match cq (fun s:aj=>s.1) p.2.1 S with | none=>true | some j=>((S[j]?).map (·.2.1)).getD false)
def gv (l:List ak) (S:List aj) (i:Nat):Bool:=Ba l S ((cV l i).length+1) i
theorem Up {a:aG} (hok:pU a) {S:List aj} (hSl:S.length<=500) (hS:Asc (·.1) S):∀ (m i f:Nat),i<a.2.2.2.length->(cV a.2.2.2 i).length=m->m<f-> nL (fun self x=>cr self x.1 x.2.1) f ((a,S),(i:Int),())=some (Ba a.2.2.2 S (m+1) i,())
 | m,i,f,hi,hm,hf=>by
  have hl:=hok.len
  have hp:a.2.2.2[i]? =some a.2.2.2[i]:=aD hi
  obtain⟨f,rfl⟩:∃ g,f=g+1:=⟨f - 1,by omega⟩
  have ihA:∀ j,j<a.2.2.2.length->(cV a.2.2.2 j).length<m->nL (fun self x=>cr self x.1 x.2.1) f ((a,S),(j:Int),())=some (Ba a.2.2.2 S ((cV a.2.2.2 j).length+1) j,()):=fun j hj hlt=>Up hok hSl hS (cV a.2.2.2 j).length j f hj rfl (by omega)
  show cr (nL (fun self x=>cr self x.1 x.2.1) f) (a,S) (i:Int)=_
  generalize nL (fun self x=>cr self x.1 x.2.1) f=R at ihA ⊢
  unfold cr Ba
  dsimp only
  rw[aV,hp,aib]
  rcases T9 a (S:=S) hSl hS a.2.2.2[i].1 with ⟨s,hs,he,h1,_⟩ | ⟨hn,h1,_⟩
  ·have hx:(cq (fun s:aj=>s.1) a.2.2.2[i].1 S).isSome=true:=by
    cases hx:cq (fun s:aj=>s.1) a.2.2.2[i].1 S with
    | some k=>rfl
    | none=>exact absurd he (MV hx s hs)
   rw[h1,aib]
   dsimp only
   rw[aio,aiB hx]
  ·have hx:cq (fun s:aj=>s.1) a.2.2.2[i].1 S=none:=by
    cases hx:cq (fun s:aj=>s.1) a.2.2.2[i].1 S with
    | some k=>
     obtain⟨s,h2,h3⟩:=fM hx
     exact absurd h3 (hn s (aha h2))
    | none=>rfl
   rw[h1,aib]
   dsimp only
   rw[ain,aib,hx,aiA (by simp)]
   rcases Jg hok.n1 hp with ⟨h0,_⟩ | ⟨h0,k',hk,hix⟩
   ·rw[show (a.2.2.2[i].2.1==[])=true by simpa using h0,aio,aiB h0]
   ·rw[show (a.2.2.2[i].2.1==[])=false by simpa using h0,ain,aiA h0,hk]
    dsimp only
    obtain⟨j,g1,g2⟩:=qu a a.2.2.2[i].2.1 (by omega) hok.asc
    have:=g2 k' hix
    subst this
    rw[g1,aib]
    dsimp only
    have hst:=DE hok.nl hi hk
    have hk':j<a.2.2.2.length:=NT (l:=a.2.2.2) (i:=i) (by rw[hst];exact ag5)
    have hlen:(cV a.2.2.2 i).length=(cV a.2.2.2 j).length+1:=by rw[hst];rfl
    have ih:=ihA j hk' (by omega)
    rw[show (cV a.2.2.2 j).length+1=m by omega] at ih
    rcases T9 a (S:=S) hSl hS a.2.2.2[i].2.1 with ⟨s,hs,he,h1,_⟩ | ⟨hn,h1,_⟩
    ·obtain⟨n,hnn⟩:=ag8.1 hs
     rw[h1,aib,ih,aib,N9 hS hnn he]
     dsimp only
     rw[hnn]
     cases Ba a.2.2.2 S m j<;>rfl
    ·have hx2:cq (fun s:aj=>s.1) a.2.2.2[i].2.1 S=none:=by
      cases hx2:cq (fun s:aj=>s.1) a.2.2.2[i].2.1 S with
      | some k=>
       obtain⟨s,h2,h3⟩:=fM hx2
       exact absurd h3 (hn s (aha h2))
      | none=>rfl
     rw[h1,aib,ih,aib,hx2]
     cases Ba a.2.2.2 S m j<;>rfl
termination_by m=>m
decreasing_by omega
theorem PU {a:aG} (hok:pU a) {S:List aj} (hSl:S.length<=500) (hS:Asc (·.1) S) {i:Nat} (hi:i<a.2.2.2.length):fk (a,S) (i:Int)=some (gv a.2.2.2 S i,()):=by
 have hal:=Ae hok.nl hi
 unfold fk gv
 refine Up hok hSl hS _ i _ hi rfl ?_
 unfold oo
 dsimp only
 omega
theorem Uq {a:aG} (hok:pU a) {S:List aj} (hSl:S.length<=500):∀ (m i f:Nat),i<a.2.2.2.length->(cV a.2.2.2 i).length=m->m<f-> nL (fun self x=>kJ self x.1 x.2.1 x.2.2.1) f (a,S,(i:Int),())=some (Ba a.2.2.2 S (m+1) i,())
 | m,i,f,hi,hm,hf=>by
  have hl:=hok.len
  have hp:a.2.2.2[i]? =some a.2.2.2[i]:=aD hi
  obtain⟨f,rfl⟩:∃ g,f=g+1:=⟨f - 1,by omega⟩
  have ihA:∀ j,j<a.2.2.2.length->(cV a.2.2.2 j).length<m->nL (fun self x=>kJ self x.1 x.2.1 x.2.2.1) f (a,S,(j:Int),())=some (Ba a.2.2.2 S ((cV a.2.2.2 j).length+1) j,()):=fun j hj hlt=>Uq hok hSl (cV a.2.2.2 j).length j f hj rfl (by omega)
  show kJ (nL (fun self x=>kJ self x.1 x.2.1 x.2.2.1) f) a S (i:Int)=_
  generalize nL (fun self x=>kJ self x.1 x.2.1 x.2.2.1) f=R at ihA ⊢
  unfold kJ Ba
  rw[aV,hp,aib,Nv S _ (by omega),aib]
  dsimp only
  cases hx:cq (fun s:aj=>s.1) a.2.2.2[i].1 S with
  | some k=>rw[show decide (ixI (some k)>=0)=true from ais (by show (k:Int)>=0;omega),aio,aiB (show (some k).isSome=true from rfl)]
  | none=>
   rw[show decide (ixI none>=0)=false from rfl,ain,aiA (by simp)]
   rcases Jg hok.n1 hp with ⟨h0,_⟩ | ⟨h0,k',hk,hix⟩
   ·rw[show (a.2.2.2[i].2.1==[])=true by simpa using h0,aio,aiB h0]
   ·rw[show (a.2.2.2[i].2.1==[])=false by simpa using h0,ain,aiA h0,hk,qK a.2.2.2 _ (by omega),aib,hix,Nv S _ (by omega),aib]
    dsimp only
    have hst:=DE hok.nl hi hk
    have hk':k'<a.2.2.2.length:=NT (l:=a.2.2.2) (i:=i) (by rw[hst];exact ag5)
    have hlen:(cV a.2.2.2 i).length=(cV a.2.2.2 k').length+1:=by rw[hst];rfl
    have ih:=ihA k' hk' (by omega)
    rw[show (cV a.2.2.2 k').length+1=m by omega] at ih
    rw[show ixI (some k')=(k':Int) from rfl,ih,aib]
    dsimp only
    cases hc:Ba a.2.2.2 S m k' with
    | false=>rfl
    | true=>
     rw[aio,afJ]
     cases hx2:cq (fun s:aj=>s.1) a.2.2.2[i].2.1 S with
     | none=>rfl
     | some n=>
      obtain⟨s,h2,_⟩:=fM hx2
      rw[show decide (ixI (some n)<0)=false from aiq (by show ¬ (n:Int)<0;omega),ain,show ixI (some n)=(n:Int) from rfl,aV,h2,aib]
      dsimp only
      rw[h2]
      rfl
termination_by m=>m
decreasing_by omega
theorem PV {a:aG} (hok:pU a) {S:List aj} (hSl:S.length<=500) {i:Nat} (hi:i<a.2.2.2.length):uj a S (i:Int)=some (gv a.2.2.2 S i,()):=by
 have hal:=Ae hok.nl hi
 unfold uj gv
 refine Uq hok hSl _ i _ hi rfl ?_
 unfold Ew
 omega
end Go.Md
set_option linter.all false
set_option maxRecDepth 20000
namespace Go.Md
open Go.Dn
abbrev T3:Type:=Bys×Bys×Bys
def kC3 (p:T3×Int):aa:=(p.1.1,p.1.2.1,p.1.2.2,0,0)
def vN3 (p:T3×Int):ai:=N p.2
def fH (a b:T3):Bool:=decide (bQ (a.1,a.2.1,a.2.2,0,0) (b.1,b.2.1,b.2.2,0,0)<0)
theorem XS:SOr fH:=⟨fun a=>by unfold fH;rw[Hh];rfl,fun h1 h2=>ais (E5 (aiG h1) (aiG h2)),fun a b=>by
 by_cases h:bQ (a.1,a.2.1,a.2.2,0,0) (b.1,b.2.1,b.2.2,0,0)<0
 ·exact .inl (ais h)
 ·by_cases h0:bQ (a.1,a.2.1,a.2.2,0,0) (b.1,b.2.1,b.2.2,0,0)=0
  ·exact .inr (.inl (DI h0))
  ·exact .inr (.inr (ais (ab6 h h0)))⟩
theorem acJ (a k:T3):∃ c,eV (a.1,a.2.1,a.2.2,0,0) (k.1,k.2.1,k.2.2,0,0)=some (c,())/\decide (c<0)=fH a k:=⟨_,lF _ _,rfl⟩
theorem adE (L:List ai) (n:Nat) (hn:n<=L.length) (x y:ai):(L.take n++x::L.drop n)[n]? =some x/\(L.take n++x::L.drop n).set n y=L.take n++y::L.drop n:=by
 have h:(L.take n).length=n:=by rw[agV];omega
 constructor
 ·rw[agv (by omega),h,ah5];rfl
 ·rw[List.set_append_right _ _ (by omega),h,ah5];rfl
theorem aay {R:List (T3×Int)} (hl:R.length<=1000000) (k:T3) (s:Bool) (d:List Int) (V:List ai): ∀ (r:List (T3×Int)) (i f:Nat),R.drop i=r->i<=R.length->r.length<f-> iter (X:=qN) (β:=qM) f ((i:Int),k.1,k.2.1,k.2.2,0,0,s,d,R.map kC3,V,()) gE=some (Sum.inr (((i+rj fH k (r.map (·.1)):Nat):Int),k.1,k.2.1,k.2.2,0,0,s,d,R.map kC3,V,())):=by
 intro r
 induction r with
 | nil=>
  intro i f hdr hi hf
  have:i=R.length:=by
   have:=congrArg List.length hdr
   simp at this;omega
  obtain⟨f,rfl⟩:∃ m,f=m+1:=⟨f - 1,by omega⟩
  rw[aY]
  unfold gE
  dsimp only
  rw[agP,ay (by omega),aib]
  rfl
 | cons x r ih=>
  intro i f hdr hi hf
  have hx:R[i]? =some x:=by
   have:=congrArg (·[0]?) hdr
   simpa [agy] using this
  have hr':R.drop (i+1)=r:=by
   have:=congrArg List.tail hdr
   simpa [ahr] using this
  have hlt:=(agB.1 hx).1
  obtain⟨f,rfl⟩:∃ m,f=m+1:=⟨f - 1,by simp at hf;omega⟩
  simp only[agN] at hf
  have hp:rj fH k ((x::r).map (·.1))=if fH x.1 k=true then rj fH k (r.map (·.1))+1 else 0:=rfl
  obtain⟨c,hc,hd⟩:=acJ x.1 k
  rw[aY,hp]
  generalize hag:(fun y=>iter f y gE)=again
  unfold gE
  dsimp only
  rw[agP,av (by omega),aH (by rw[afv];exact⟨ais (by omega),ais (by omega)⟩),afY,agC,hx]
  dsimp only[Option.map_some]
  rw[aib,show kC3 x=(x.1.1,x.1.2.1,x.1.2.2,0,0) from rfl,hc,aib,aib]
  dsimp only
  rw[hd]
  cases hb:fH x.1 k with
  | true=>
   rw[aio,aiB rfl,au (n:=(i:Int)+1) (by omega) (by omega), <- hag,show (i:Int)+1=((i+1:Nat):Int) by omega]
   refine (ih (i+1) f hr' (by omega) (by omega)).trans ?_
   rw[show i+1+rj fH k (r.map (·.1))=i+(rj fH k (r.map (·.1))+1) by omega]
  | false=>rw[ain,aiA (by simp)];rfl
theorem abW {R:List (T3×Int)} (hl:R.length<=1000000) (hb:∀ p∈R,Le 60 p.2) (k:T3) {z:Int} (hz:Le 60 z): gq (R.map kC3,R.map vN3,()) (k.1,k.2.1,k.2.2,0,0) (N z)=some (((dA fH k z R).map kC3,(dA fH k z R).map vN3,()),()):=by
 unfold gq
 have h0:=aay hl k (N z).1 (N z).2 (R.map vN3) R 0 (Int.natAbs (0:Int)+(k.1.length+(k.2.1.length+(k.2.2.length+(Int.natAbs (0:Int)+(Int.natAbs (0:Int)+(List.length (N z).2+(List.length (R.map kC3)+(List.length (R.map vN3)+2))))))))) rfl (ah8 _) (by rw[agP,agP];omega)
 rw[show ((0:Nat):Int)=0 from rfl,ah7] at h0
 rw[h0,az]
 dsimp only
 rw[agP]
 have hle:=TW (lt:=fH) k (R.map (·.1))
 rw[agP] at hle
 have haR:=SJ (lt:=fH) k z R
 generalize rj fH k (R.map (·.1))=n at*
 have hinsC:gK (R.map kC3) (n:Int) [(k.1,k.2.1,k.2.2,0,0)]=some ((R.take n++(k,z)::R.drop n).map kC3,()):=by
  show ny 64 _ _ _=_
  unfold ny
  rw[show (decide (0<=(n:Int))&&(decide ((n:Int)<=((R.map kC3).length:Int))&&(decide (0<[((k.1,k.2.1,k.2.2,0,0):aa)].length)&&(decide (((R.map kC3).length+[((k.1,k.2.1,k.2.2,0,0):aa)].length)*64<=140737488355328)&&decide ((R.map kC3).length+[((k.1,k.2.1,k.2.2,0,0):aa)].length<=4611686018427387904)))))=true by
   simp only[afv,ait,agU,agP]
   omega]
  rw[aio,afY,agW,agY,List.map_take,List.map_drop]
  rfl
 have hinsN:dO (R.map vN3) (n:Int) [(false,[])]=some ((R.map vN3).take n++(false,[])::(R.map vN3).drop n,()):=by
  show ny 32 _ _ _=_
  unfold ny
  rw[show (decide (0<=(n:Int))&&(decide ((n:Int)<=((R.map vN3).length:Int))&&(decide (0<[((false,[]):ai)].length)&&(decide (((R.map vN3).length+[((false,[]):ai)].length)*32<=140737488355328)&&decide ((R.map vN3).length+[((false,[]):ai)].length<=4611686018427387904)))))=true by
   simp only[afv,ait,agU,agP]
   omega]
  rw[aio,afY]
  rfl
 obtain⟨g1,g2⟩:=adE (R.map vN3) n (by rw[agP];exact hle) (false,[]) (N (0+z))
 have hlen:((R.map vN3).take n++(false,[])::(R.map vN3).drop n).length=R.length+1:=by
  rw[agM,agN,agV,agO,agP];omega
 have zn:=ahU (hz.n (by omega)) (show 90<10000 by omega)
 have g3:(R.map vN3).take n++N (0+z)::(R.map vN3).drop n=(R.take n++(k,z)::R.drop n).map vN3:=by
  rw[agW,agY,List.map_take,List.map_drop,Int.zero_add];rfl
 cases hg:R[n]? with
 | none=>
  have hn:n=R.length:=by
   have:=List.getElem?_eq_none_iff.1 hg
   omega
  rw[hg] at haR
  have e:dA fH k z R=R.take n++(k,z)::R.drop n:=by rw[haR,hn,ahv,agc]
  rw[show (((n:Nat):Int)==((R.length:Nat):Int))=true by rw[hn];simp,aio,hinsC,aib,hinsN,aib,az]
  dsimp only
  rw[aH (by rw[afv,hlen];exact⟨ais (by omega),ais (by omega)⟩),afY,g1,aib,show ((false,[]):ai)=N 0 from rfl,show ((N z).1,(N z).2)=N z from rfl,l7 _ _ (by decide) zn,aib]
  dsimp only
  rw[show N 0=((false,[]):ai) from rfl,aH (by rw[afv,hlen];exact⟨ais (by omega),ais (by omega)⟩),aib,g2,g3,e]
 | some p=>
  have hlt:=(agB.1 hg).1
  rw[hg] at haR
  dsimp only at haR
  have hc:(!((p.1.1==k.1)&&((p.1.2.1==k.2.1)&&((p.1.2.2==k.2.2)&&((((0:Int)==0)&&(((0:Int)==0)&&true))&&true)))))= !decide (p.1=k):=by
   congr 1
   by_cases h1:p.1.1=k.1
   ·by_cases h2:p.1.2.1=k.2.1
    ·by_cases h3:p.1.2.2=k.2.2
     ·rw[ais (Prod.ext h1 (Prod.ext h2 h3))];simp[h1,h2,h3]
     ·rw[aiq (fun e=>h3 (by rw[e]))];simp[h3]
    ·rw[aiq (fun e=>h2 (by rw[e]))];simp[h2]
   ·rw[aiq (fun e=>h1 (by rw[e]))];simp[h1]
  rw[show (((n:Nat):Int)==((R.length:Nat):Int))=false by rw[aik];omega,ain,aH (by rw[afv];exact⟨ais (by omega),ais (by omega)⟩),afY,agC,hg]
  dsimp only[Option.map_some]
  rw[aib]
  dsimp only[kC3]
  rw[hc]
  by_cases hk:p.1=k
  ·rw[aiB hk] at haR
   rw[ais hk,afG,ain,az]
   dsimp only
   have hpb:=hb p (aha hg)
   rw[aH (by rw[afv,agP];exact⟨ais (by omega),ais (by omega)⟩),afY,agC,hg]
   dsimp only[Option.map_some]
   rw[aib,show ((N z).1,(N z).2)=N z from rfl,show vN3 p=N p.2 from rfl,l7 _ _ (ahU (hpb.n (by omega)) (by omega)) zn,aib]
   dsimp only
   rw[aH (by rw[afv,agP];exact⟨ais (by omega),ais (by omega)⟩),aib,haR,List.map_set,List.map_set]
   have es:(R.map kC3).set n (kC3 (k,p.2+z))=R.map kC3:=by
    have h5:(R.map kC3)[n]? =some (kC3 (k,p.2+z)):=by rw[agC,hg, <- hk];rfl
    apply agj
    intro j
    rw[agF]
    split
    ·rename_i hj
     subst hj
     rw[aiB (by rw[agP];exact hlt),h5]
    ·rfl
   rw[es]
   rfl
  ·rw[aiA hk] at haR
   rw[aiq hk,afF,aio]
   rw[hinsC,aib,hinsN,aib,az]
   dsimp only
   rw[aH (by rw[afv,hlen];exact⟨ais (by omega),ais (by omega)⟩),afY,g1,aib,show ((false,[]):ai)=N 0 from rfl,show ((N z).1,(N z).2)=N z from rfl,l7 _ _ (by decide) zn,aib]
   dsimp only
   rw[show N 0=((false,[]):ai) from rfl,aH (by rw[afv,hlen];exact⟨ais (by omega),ais (by omega)⟩),aib,g2,g3,haR]
end Go.Md
set_option linter.all false
set_option maxRecDepth 20000
namespace Go.Md
open Go.Dn
theorem Uj {k:T3} {z:Int} {n:Nat} {M:Nat} (hz:z.natAbs<=M):∀ {R:List (T3×Int)},(∀ p∈R,p.2.natAbs<=n*M)->∀ p∈dA fH k z R,p.2.natAbs<=(n+1)*M
 | [],_,p,hp=>by
  rw[show dA fH k z ([]:List (T3×Int))=[(k,z)] from rfl] at hp
  rw[ahf.1 hp,ah6];dsimp only;omega
 | q::r,h,p,hp=>by
  have hq:=h q ag5
  unfold dA at hp
  rw[ah6]
  split at hp
  ·rcases ag3.1 hp with e | hp
   ·rw[e];omega
   ·have:=Uj hz (fun x hx=>h x (ag4 _ hx)) p hp
    rw[ah6] at this;exact this
  ·split at hp
   ·rcases ag3.1 hp with e | hp
    ·rw[e];dsimp only;omega
    ·have:=h p (ag4 _ hp);omega
   ·rcases ag3.1 hp with e | hp
    ·rw[e];dsimp only;omega
    ·have:=h p hp;omega
theorem LY (k:T3) (z:Int):∀ R:List (T3×Int),(dA fH k z R).length<=R.length+1
 | []=>ahJ _
 | q::r=>by
  have:=LY k z r
  unfold dA
  split
  ·simp;omega
  ·split
   ·simp
   ·simp
structure Bd3 (n:Nat) (R:List (T3×Int)):Prop where
 len:R.length<=n
 sm:∀ p∈R,p.2.natAbs<=n*10 ^ 24
theorem Bd3.add {n:Nat} {R:List (T3×Int)} (h:Bd3 n R) (k:T3) {z:Int} (hz:z.natAbs<=10 ^ 24):Bd3 (n+1) (dA fH k z R):=
 ⟨ahK (LY k z R) (by have:=h.len;omega),Uj hz h.sm⟩
theorem Bd3.le {n:Nat} {R:List (T3×Int)} (h:Bd3 n R) (hn:n<=1000000):∀ p∈R,Le 60 p.2:=fun p hp=>by
 have h1:=h.sm p hp
 have h2:n*10 ^ 24<=1000000*10 ^ 24:=ahZ _ hn
 show p.2.natAbs<=10 ^ 60
 omega
def b8 (s:Int) (R:List (T3×Int)) (cs:List aa):List (T3×Int):=cs.foldl (fun R c=>dA fH (k3 c) (s*v9 c.2.2.2) R) R
theorem UZ {n:Nat} {R:List (T3×Int)} (h:Bd3 n R) (hn:n<=1000000) (c:aa) {z:Int} (hz:z.natAbs<=10 ^ 24): gq (R.map kC3,R.map vN3,()) c (N z)=some (((dA fH (k3 c) z R).map kC3,(dA fH (k3 c) z R).map vN3,()),()):=by
 have h1:=abW (R:=R) (by have:=h.len;omega) (h.le hn) (k3 c) (z:=z) (show z.natAbs<=10 ^ 60 by omega)
 exact h1
theorem ad4 (lbl0:Bys) (cs:List aa) (hcl:cs.length<=1000) (hc:∀ c∈cs,cc c.2.2.2): ∀ (r:List aa) (i f n:Nat) (R:List (T3×Int)),cs.drop i=r->i<=cs.length->r.length<f->Bd3 n R->n+r.length<=1000000-> Bd3 (n+r.length) (b8 1 R r)/\iter (X:=BE) (β:=BC) f (lbl0,cs,(cs.length:Int),(i:Int),R.map kC3,R.map vN3,()) xb=some (Sum.inr (lbl0,(b8 1 R r).map kC3,(b8 1 R r).map vN3,())):=by
 intro r
 induction r with
 | nil=>
  intro i f n R hdr hi hf hR hn
  have:i=cs.length:=by
   have:=congrArg List.length hdr
   simp at this;omega
  obtain⟨f,rfl⟩:∃ m,f=m+1:=⟨f - 1,by omega⟩
  refine⟨hR, ?_⟩
  rw[aY]
  unfold xb
  dsimp only
  rw[ay (by omega)]
  rfl
 | cons c r ih=>
  intro i f n R hdr hi hf hR hn
  have hx:cs[i]? =some c:=by
   have:=congrArg (·[0]?) hdr
   simpa [agy] using this
  have hr':cs.drop (i+1)=r:=by
   have:=congrArg List.tail hdr
   simpa [ahr] using this
  have hlt:=(agB.1 hx).1
  have hd:=hc c (aha hx)
  have hv:(v9 c.2.2.2).natAbs<=10 ^ 24:=Ot hd
  obtain⟨f,rfl⟩:∃ m,f=m+1:=⟨f - 1,by simp at hf;omega⟩
  simp only[agN] at hf hn
  have hone:(1:Int)*v9 c.2.2.2=v9 c.2.2.2:=Int.one_mul _
  obtain⟨g1,g2⟩:=ih (i+1) f (n+1) (dA fH (k3 c) (1*v9 c.2.2.2) R) hr' (by omega) (by omega) (hR.add _ (by rw[hone];exact hv)) (by omega)
  refine⟨by rw[agN,show n+(r.length+1)=n+1+r.length by omega];exact g1, ?_⟩
  rw[aY]
  generalize hag:(fun y=>iter f y xb)=again
  unfold xb
  dsimp only
  rw[av (by omega),aV,hx,aib,show iO c.2.2.2=_ from xe hd,aib]
  dsimp only
  rw[UZ hR (by omega) c hv,aib]
  dsimp only
  rw[au (n:=(i:Int)+1) (by omega) (by omega), <- hag,show (i:Int)+1=((i+1:Nat):Int) by omega, <- hone]
  rw[hone] at g2 ⊢
  have e:b8 1 R (c::r)=b8 1 (dA fH (k3 c) (v9 c.2.2.2) R) r:=by unfold b8;rw[List.foldl_cons,hone]
  rw[e]
  exact g2
theorem ad3 (lbl0:Bys) (is:List aa) (cs:List aa) (hcl:cs.length<=1000) (hc:∀ c∈cs,cc c.2.2.2): ∀ (r:List aa) (i f n:Nat) (R:List (T3×Int)),cs.drop i=r->i<=cs.length->r.length<f->Bd3 n R->n+r.length<=1000000-> Bd3 (n+r.length) (b8 (-1) R r)/\iter (X:=BD) (β:=BB) f (lbl0,is,cs,(cs.length:Int),(i:Int),R.map kC3,R.map vN3,()) w9=some (Sum.inr (lbl0,is,(b8 (-1) R r).map kC3,(b8 (-1) R r).map vN3,())):=by
 intro r
 induction r with
 | nil=>
  intro i f n R hdr hi hf hR hn
  have:i=cs.length:=by
   have:=congrArg List.length hdr
   simp at this;omega
  obtain⟨f,rfl⟩:∃ m,f=m+1:=⟨f - 1,by omega⟩
  refine⟨hR, ?_⟩
  rw[aY]
  unfold w9
  dsimp only
  rw[ay (by omega)]
  rfl
 | cons c r ih=>
  intro i f n R hdr hi hf hR hn
  have hx:cs[i]? =some c:=by
   have:=congrArg (·[0]?) hdr
   simpa [agy] using this
  have hr':cs.drop (i+1)=r:=by
   have:=congrArg List.tail hdr
   simpa [ahr] using this
  have hlt:=(agB.1 hx).1
  have hd:=hc c (aha hx)
  have hv:(v9 c.2.2.2).natAbs<=10 ^ 24:=Ot hd
  obtain⟨f,rfl⟩:∃ m,f=m+1:=⟨f - 1,by simp at hf;omega⟩
  simp only[agN] at hf hn
  have hone:(-1:Int)*v9 c.2.2.2= -v9 c.2.2.2:=by omega
  have hvn:(-v9 c.2.2.2).natAbs<=10 ^ 24:=by omega
  obtain⟨g1,g2⟩:=ih (i+1) f (n+1) (dA fH (k3 c) (-1*v9 c.2.2.2) R) hr' (by omega) (by omega) (hR.add _ (by rw[hone];exact hvn)) (by omega)
  refine⟨by rw[agN,show n+(r.length+1)=n+1+r.length by omega];exact g1, ?_⟩
  rw[aY]
  generalize hag:(fun y=>iter f y w9)=again
  unfold w9
  dsimp only
  rw[av (by omega),aV,hx,aib,show iO c.2.2.2=_ from xe hd,aib]
  dsimp only
  rw[Dp,aib]
  dsimp only
  rw[UZ hR (by omega) c hvn,aib]
  dsimp only
  rw[au (n:=(i:Int)+1) (by omega) (by omega), <- hag,show (i:Int)+1=((i+1:Nat):Int) by omega, <- hone]
  rw[hone] at g2 ⊢
  have e:b8 (-1) R (c::r)=b8 (-1) (dA fH (k3 c) (-v9 c.2.2.2) R) r:=by unfold b8;rw[List.foldl_cons,hone]
  rw[e]
  exact g2
end Go.Md
set_option linter.all false
set_option maxRecDepth 20000
namespace Go.Md
open Go.Dn
def tl (z:Int):ax:=if (few 9 z).1.natAbs<=1000000000000000 then ((few 9 z).1,((few 9 z).2:Int)) else (0,0)
def Cs (t:Bys) (p:T3×Int):Option an:=
 if (tl p.2).1=0 then none else if (tl p.2).1<0 then some (3,t,p.1.1,p.1.2.1,p.1.2.2,(-(tl p.2).1,(tl p.2).2)) else some (4,t,p.1.1,p.1.2.1,p.1.2.2,tl p.2)
theorem adT (z:Int) (hz:Le 300 z):∃ e,CN (N z)=some (tl z,e,()):=by
 rw[Pj z hz]
 unfold tl
 by_cases h:(few 9 z).1.natAbs<=1000000000000000
 ·rw[aiB h,aiB h];exact⟨_,rfl⟩
 ·rw[aiA h,aiA h];exact⟨_,rfl⟩
theorem aeU (z:Int):(tl z).1.natAbs<=1000000000000000:=by
 unfold tl
 split
 ·assumption
 ·exact ah8 _
theorem adh (t:Bys) {R:List (T3×Int)} (hl:R.length<=100000) (hb:∀ p∈R,Le 60 p.2): ∀ (r:List (T3×Int)) (i f:Nat) (out:List an),R.drop i=r->i<=R.length->r.length<f->out.length<=i-> iter (X:=zI) (β:=zH) f (t,out,R.map kC3,(R.length:Int),(i:Int),R.map kC3,R.map vN3,()) uT=some (Sum.inr (out++r.filterMap (Cs t),())):=by
 have wR:maxLen=9223372036854775807:=rfl
 intro r
 induction r with
 | nil=>
  intro i f out hdr hi hf ho
  have:i=R.length:=by
   have:=congrArg List.length hdr
   simp at this;omega
  obtain⟨f,rfl⟩:∃ m,f=m+1:=⟨f - 1,by omega⟩
  rw[aY]
  unfold uT
  dsimp only
  rw[ay (by omega)]
  simp
 | cons p r ih=>
  intro i f out hdr hi hf ho
  have hx:R[i]? =some p:=by
   have:=congrArg (·[0]?) hdr
   simpa [agy] using this
  have hr':R.drop (i+1)=r:=by
   have:=congrArg List.tail hdr
   simpa [ahr] using this
  have hlt:=(agB.1 hx).1
  have hpb:=hb p (aha hx)
  obtain⟨e,he⟩:=adT p.2 (hpb.mono (by omega))
  have htb:=aeU p.2
  obtain⟨f,rfl⟩:∃ m,f=m+1:=⟨f - 1,by simp at hf;omega⟩
  simp only[agN] at hf
  have hfm:(p::r).filterMap (Cs t)=(match Cs t p with | some d=>d::r.filterMap (Cs t) | none=>r.filterMap (Cs t)):=by
   rw[agk]
   cases Cs t p<;>rfl
  rw[aY,hfm]
  generalize hag:(fun y=>iter f y uT)=again
  unfold uT
  dsimp only
  rw[av (by omega),aV,agC,hx]
  dsimp only[Option.map_some]
  rw[aib,aH (by rw[afv,agP];exact⟨ais (by omega),ais (by omega)⟩),afY,agC,hx]
  dsimp only[Option.map_some]
  rw[aib,show vN3 p=N p.2 from rfl,he,aib]
  dsimp only
  rw[au (n:=(i:Int)+1) (by omega) (by omega),show (i:Int)+1=((i+1:Nat):Int) by omega]
  unfold Cs
  by_cases h0:(tl p.2).1=0
  ·rw[show ((tl p.2).1==0)=true by simpa using h0,aio,aiB h0, <- hag]
   exact ih (i+1) f out hr' (by omega) (by omega) (by omega)
  ·rw[show ((tl p.2).1==0)=false by simpa using h0,ain,aiA h0]
   by_cases hn:(tl p.2).1<0
   ·rw[ais hn,aio,az,aiB hn]
    dsimp only
    rw[aH (by rw[afv];exact⟨ais (by omega),ais (by omega)⟩),au (n:=0 - (tl p.2).1) (by omega) (by omega),au (n:=(i:Int)+1) (by omega) (by omega),show (i:Int)+1=((i+1:Nat):Int) by omega, <- hag]
    refine (ih (i+1) f _ hr' (by omega) (by omega) (by simp;omega)).trans ?_
    rw[af3,Int.zero_sub]
    rfl
   ·rw[aiq hn,ain,az,aiA hn]
    dsimp only
    rw[aH (by rw[afv];exact⟨ais (by omega),ais (by omega)⟩),au (n:=(i:Int)+1) (by omega) (by omega),show (i:Int)+1=((i+1:Nat):Int) by omega, <- hag]
    refine (ih (i+1) f _ hr' (by omega) (by omega) (by simp;omega)).trans ?_
    rw[af3]
    rfl
theorem XB (t:Bys) {was is:List aa} (hw:was.length<=1000) (hi:is.length<=1000) (dw:∀ c∈was,cc c.2.2.2) (di:∀ c∈is,cc c.2.2.2): HD t was is=some ((b8 1 (b8 (-1) [] was) is).filterMap (Cs t),()):=by
 unfold HD
 obtain⟨g1,g2⟩:=ad3 t is was hw dw was 0 (List.length t+(List.length is+(List.length was+(Int.natAbs ((List.length was:Int))+(Int.natAbs (0:Int)+(List.length ([]:List aa)+(List.length ([]:List ai)+2))))))) 0 [] rfl (ah8 _) (by omega) ⟨ahJ _,fun p h=>by cases h⟩ (by omega)
 rw[show ((0:Nat):Int)=0 from rfl,List.map_nil,List.map_nil] at g2
 rw[g2,az]
 dsimp only
 obtain⟨h1,h2⟩:=ad4 t is hi di is 0 (List.length t+(List.length is+(Int.natAbs ((List.length is:Int))+(Int.natAbs (0:Int)+(List.length ((b8 (-1) [] was).map kC3)+(List.length ((b8 (-1) [] was).map vN3)+2)))))) _ _ rfl (ah8 _) (by omega) g1 (by omega)
 rw[show ((0:Nat):Int)=0 from rfl] at h2
 rw[h2,az]
 dsimp only
 have hlen:=h1.len
 have h14:=adh t (R:=b8 1 (b8 (-1) [] was) is) (by omega) (h1.le (by omega)) (b8 1 (b8 (-1) [] was) is) 0 (List.length t+(List.length ([]:List an)+(List.length ((b8 1 (b8 (-1) [] was) is).map kC3)+(Int.natAbs ((List.length ((b8 1 (b8 (-1) [] was) is).map kC3):Int))+(Int.natAbs (0:Int)+(List.length ((b8 1 (b8 (-1) [] was) is).map kC3)+(List.length ((b8 1 (b8 (-1) [] was) is).map vN3)+2))))))) [] rfl (ah8 _) (by rw[agP];omega) (ahJ _)
 rw[show ((0:Nat):Int)=0 from rfl,show (((b8 1 (b8 (-1) [] was) is).length:Nat):Int)=(((b8 1 (b8 (-1) [] was) is).map kC3).length:Int) by rw[agP]] at h14
 rw[h14,az]
 rfl
end Go.Md
set_option linter.all false
set_option maxRecDepth 20000
namespace Go.Md
open Go.Dn
theorem acE {a:aG} (hok:pU a) {S:List aj} (hSl:S.length<=500) (ii:Int) (L:List Nat) (hL:∀ x∈L,x<a.2.2.2.length) (hLl:L.length<=1000): ∀ (r:List Nat) (i f:Nat),L.drop i=r->i<=L.length->r.length<f-> iter (X:=yg) (β:=yf) f (S,ii,cI L,(L.length:Int),(i:Int),a.1,a.2.1,a.2.2.1,a.2.2.2,()) sg=some (if r.all (gv a.2.2.2 S)=true then Sum.inr (S,ii,a.1,a.2.1,a.2.2.1,a.2.2.2,()) else Sum.inl (false,())):=by
 intro r
 induction r with
 | nil=>
  intro i f hdr hi hf
  have:i=L.length:=by
   have:=congrArg List.length hdr
   simp at this;omega
  obtain⟨f,rfl⟩:∃ m,f=m+1:=⟨f - 1,by omega⟩
  rw[aY]
  unfold sg
  dsimp only
  rw[ay (by omega)]
  simp
 | cons x r ih=>
  intro i f hdr hi hf
  have hx:L[i]? =some x:=by
   have:=congrArg (·[0]?) hdr
   simpa [agy] using this
  have hr':L.drop (i+1)=r:=by
   have:=congrArg List.tail hdr
   simpa [ahr] using this
  have hlt:=(agB.1 hx).1
  have hxl:=hL x (aha hx)
  obtain⟨f,rfl⟩:∃ m,f=m+1:=⟨f - 1,by simp at hf;omega⟩
  simp only[agN] at hf
  rw[aY]
  generalize hag:(fun y=>iter f y sg)=again
  unfold sg
  dsimp only
  have hxi:(cI L)[i]? =some (x:Int):=by unfold cI;rw[agC,hx];rfl
  rw[av (by omega),aV,hxi,aib,show uj (a.1,a.2.1,a.2.2.1,a.2.2.2) S (x:Int)=_ from PV hok hSl hxl,aib,afZ]
  dsimp only
  cases hc:gv a.2.2.2 S x with
  | false=>rw[afF,aio,afy,aiA (by simp)]
  | true=>
   rw[afG,ain,afJ,au (n:=(i:Int)+1) (by omega) (by omega), <- hag,show (i:Int)+1=((i+1:Nat):Int) by omega]
   exact ih (i+1) f hr' (by omega) (by omega)
def TM (l:List ak) (S:List aj) (i:Nat):Bool:=(cV l i).all (gv l S)&& !gv l S i
theorem TX {a:aG} (hok:pU a) {S:List aj} (hSl:S.length<=500) {i:Nat} (hi:i<a.2.2.2.length):zg a S (i:Int)=some (TM a.2.2.2 S i,()):=by
 have hl:=hok.len
 have hal:=Ae hok.nl hi
 unfold zg TM
 rw[UQ a.2.2.2 hl hok.n1 hok.nl i hi,aib]
 dsimp only
 have e1:List.drop 1 (List.take (Int.toNat (((cI (i::cV a.2.2.2 i)).length:Int))) (cI (i::cV a.2.2.2 i)))=cI (cV a.2.2.2 i):=by
  rw[afY,ahv];rfl
 rw[e1,aH (by simp only[afv,ait,nX,agN];omega)]
 have h3:=acE hok hSl (i:Int) (cV a.2.2.2 i) (fun x hx=>NT hx) (by omega) (cV a.2.2.2 i) 0 (List.length S+(Int.natAbs (i:Int)+(List.length (cI (cV a.2.2.2 i))+(Int.natAbs ((List.length (cI (cV a.2.2.2 i)):Int))+(Int.natAbs (0:Int)+(a.1.length+(a.2.1.length+(a.2.2.1.natAbs+(a.2.2.2.length+2))))))))) rfl (ah8 _) (by rw[nX];omega)
 rw[show ((0:Nat):Int)=0 from rfl,show (((cV a.2.2.2 i).length:Nat):Int)=((cI (cV a.2.2.2 i)).length:Int) by rw[nX]] at h3
 rw[h3]
 by_cases h:(cV a.2.2.2 i).all (gv a.2.2.2 S)=true
 ·rw[aiB h,az,h,afJ]
  dsimp only
  rw[show uj (a.1,a.2.1,a.2.2.1,a.2.2.2) S (i:Int)=_ from PV hok hSl hi,aib]
 ·rw[aiA h,iN,Bool.eq_false_iff.2 h,afy]
end Go.Md
set_option linter.all false
set_option maxRecDepth 20000
namespace Go.Md
open Go.Dn
theorem Ra {a:aG} (hok:pU a) {S:List aj} (hSl:S.length<=500) (hS:Asc (·.1) S) (L:List Nat) (hL:∀ x∈L,x<a.2.2.2.length) (hLl:L.length<=1000): gG (cI L) (a,S)=some (!L.all (gv a.2.2.2 S),()):=by
 unfold gG rm
 have loop:∀ (r:List Nat) (i f:Nat),L.drop i=r->i<=L.length->r.length<f->
  (r.all (gv a.2.2.2 S)=true/\iter (X:=dJ) (β:=dI) f (cI L,(a,S),(L.length:Int),(i:Int),()) cO=some (Sum.inr ()))\/
  (r.all (gv a.2.2.2 S)=false/\∃ k:Nat,iter (X:=dJ) (β:=dI) f (cI L,(a,S),(L.length:Int),(i:Int),()) cO=some (Sum.inl ((k:Int),()))):=by
  intro r
  induction r with
  | nil=>
   intro i f hdr hi hf
   have:i=L.length:=by
    have:=congrArg List.length hdr
    simp at this;omega
   obtain⟨f,rfl⟩:∃ m,f=m+1:=⟨f - 1,by omega⟩
   left
   refine⟨rfl, ?_⟩
   rw[aY]
   unfold cO
   dsimp only
   rw[ay (by omega)]
  | cons x r ih=>
   intro i f hdr hi hf
   have hx:L[i]? =some x:=by
    have:=congrArg (·[0]?) hdr
    simpa [agy] using this
   have hr':L.drop (i+1)=r:=by
    have:=congrArg List.tail hdr
    simpa [ahr] using this
   have hlt:=(agB.1 hx).1
   have hxl:=hL x (aha hx)
   obtain⟨f,rfl⟩:∃ m,f=m+1:=⟨f - 1,by simp at hf;omega⟩
   simp only[agN] at hf
   have hxi:(cI L)[i]? =some (x:Int):=by unfold cI;rw[agC,hx];rfl
   have step:iter (X:=dJ) (β:=dI) (f+1) (cI L,(a,S),(L.length:Int),(i:Int),()) cO=(if gv a.2.2.2 S x=true then iter (X:=dJ) (β:=dI) f (cI L,(a,S),(L.length:Int),((i+1:Nat):Int),()) cO else some (Sum.inl ((i:Int),()))):=by
    rw[aY]
    generalize hag:(fun y=>iter f y cO)=again
    conv=>lhs;unfold cO
    dsimp only
    rw[av (by omega),aV,hxi,aib]
    unfold Am
    rw[PU hok hSl hS hxl,aib,aib]
    dsimp only
    cases hc:gv a.2.2.2 S x with
    | true=>
     rw[afG,ain,aiB rfl,au (n:=(i:Int)+1) (by omega) (by omega), <- hag,show (i:Int)+1=((i+1:Nat):Int) by omega]
    | false=>rw[afF,aio,aiA (by simp)]
   rw[step,afZ]
   cases hc:gv a.2.2.2 S x with
   | true=>
    rw[aiB rfl,afJ]
    exact ih (i+1) f hr' (by omega) (by omega)
   | false=>
    rw[aiA (by simp),afy]
    exact .inr ⟨rfl,i,rfl⟩
 have hcl:(((cI L).length:Nat):Int)=(L.length:Int):=by rw[nX]
 rcases loop L 0 (List.length (cI L)+(Int.natAbs (((cI L).length:Nat):Int)+(Int.natAbs (0:Int)+2))) rfl (ah8 _) (by rw[nX];omega) with ⟨h1,h2⟩ | ⟨h1,k,h2⟩
 ·rw[show ((0:Nat):Int)=0 from rfl, <- hcl] at h2
  rw[h2,az,h1]
  rfl
 ·rw[show ((0:Nat):Int)=0 from rfl, <- hcl] at h2
  rw[h2,iN,h1,aib]
  dsimp only
  rw[ais (by omega)]
  rfl
end Go.Md
