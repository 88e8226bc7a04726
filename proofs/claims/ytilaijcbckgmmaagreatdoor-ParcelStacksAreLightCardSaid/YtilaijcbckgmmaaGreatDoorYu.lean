/-
  Plain facts: masses and weights. No condition.
-/
import Derived.Test.YtilaijcbckgmmaaGreatDoorYt
import Derived.Test.YtilaijcbckgmmaaGreatDoorYn
import Derived.Test.YtilaijcbckgmmaaGreatDoorYr
import Derived.Test.YtilaijcbckgmmaaGreatDoorYq
set_option linter.all false
namespace Go.Md
open Go.Dn
theorem TZ {a b:List UInt8} (h:Op.bytesLess b a=true):0<Lib.compareBytes a b:=by
 have h1:¬ Lib.compareBytes a b<0:=fun h2=>by
  have:=pn.1 h2
  rw[tX h] at this;cases this
 have h2:¬ Lib.compareBytes a b=0:=fun h3=>by
  have:=yy.1 h3
  subst this
  rw[cr] at h;cases h
 omega
def kLt (a b:aC):Bool:=Op.bytesLess a.1 b.1||(a.1==b.1&&Op.bytesLess a.2.1 b.2.1)
theorem S7 {a b c:aC} (h:kLt a b=true) (k:kLt b c=true):kLt a c=true:=by
 simp only[kLt,WW,WJ,Zg] at*
 rcases h with h | ⟨h,h'⟩
 ·rcases k with k | ⟨k,k'⟩
  ·exact .inl (iU h k)
  ·exact .inl (k ▸ h)
 ·rcases k with k | ⟨k,k'⟩
  ·exact .inl (h ▸ k)
  ·exact .inr ⟨h.trans k,iU h' k'⟩
theorem VB {a b:aC} (h:kLt a b=true):(a.1==b.1&&a.2.1==b.2.1)=false:=by
 cases hb:(a.1==b.1&&a.2.1==b.2.1) with
 | false=>rfl
 | true=>
  simp only[WJ,Zg] at hb
  simp only[kLt,hb.1,hb.2,cr,WK,WX] at h
  cases h
theorem We (p y:aC):decide (cS (fun _ (z:Int)=>z) 0 [Lib.compareBytes p.1 y.1,Lib.compareBytes p.2.1 y.2.1]≥0)= !kLt p y:=by
 have key:∀ a b:List UInt8,(Lib.compareBytes a b<0∧Op.bytesLess a b=true∧(a==b)=false)∨(Lib.compareBytes a b=0∧Op.bytesLess a b=false∧(a==b)=true)∨(0<Lib.compareBytes a b∧Op.bytesLess a b=false∧(a==b)=false):=fun a b=>by
  rcases rH a b with h | h | h
  ·refine .inl ⟨pn.2 h,h, ?_⟩
   rw[Zf];rintro rfl;rw[cr] at h;cases h
  ·subst h;exact .inr (.inl ⟨yy.2 rfl,cr _,by simp⟩)
  ·refine .inr (.inr ⟨TZ h,tX h, ?_⟩)
   rw[Zf];rintro rfl;rw[cr] at h;cases h
 unfold kLt
 rcases key p.1 y.1 with ⟨h1,h2,h3⟩ | ⟨h1,h2,h3⟩ | ⟨h1,h2,h3⟩
 ·rw[h2]
  have:¬ Lib.compareBytes p.1 y.1=0:=by omega
  simp only[cS,this,Zu,Bool.true_or,WU,Zn]
  omega
 ·rw[h2,h3]
  rcases key p.2.1 y.2.1 with ⟨k1,k2,k3⟩ | ⟨k1,k2,k3⟩ | ⟨k1,k2,k3⟩
  ·rw[k2]
   have:¬ Lib.compareBytes p.2.1 y.2.1=0:=by omega
   simp only[cS,h1,this,Zx,Zu,Bool.and_self,Bool.or_true,WU,Zn]
   omega
  ·rw[k2]
   simp[cS,h1,k1]
  ·rw[k2]
   have:¬ Lib.compareBytes p.2.1 y.2.1=0:=by omega
   simp only[cS,h1,this,Zx,Zu,WK,WX,WT,Zp]
   omega
 ·rw[h2,h3]
  have:¬ Lib.compareBytes p.1 y.1=0:=by omega
  simp only[cS,this,Zu,Bool.false_and,WX,WT,Zp]
  omega
def GD (l:List aC) (i:Nat) (y:aC):Bool:=match i with
 | 0=>false
 | i+1=>match l[i]? with
  | some p=> !kLt p y
  | none=>false
def NC (l:List aC) (i:Nat) (m:aC):Int:=
 if nI m.1=false then 5 else if nI m.2.1=false then 5 else if GD l i m=true then 8 else if qOk m.2.2 true=true then 0 else 1
def iQ (l:List aC):Int:=if 500<l.length then 2 else cS (NC l) 0 l
theorem vN (l:List aC):ku l=some (iQ l,()):=by
 unfold ku iQ
 by_cases hb:500<l.length
 ·rw[az (by omega),Zw hb]
 ·rw[aA (by omega),Zv hb]
  rw[pF (f:=kQ) (fun i=>((l,l,(l.length:Int),(i:Int),()):kR)) l (NC l) () ?_ ?_ ?_ _ ?_]
  ·exact R9 _ _
  ·rfl
  ·intro i y again hy
   have hi:=(XN.1 hy).1
   unfold kQ
   dsimp only
   rw[az (by omega),bA,hy,Y7]
   simp only[zo,Y7,nM,strings_Compare]
   have hw:w64 ((i:Int)+1)=((i+1:Nat):Int):=by rw[aj (by omega) (by omega)];omega
   rw[hw]
   unfold NC
   generalize qOk y.2.2 true=q
   cases i with
   | zero=>
    simp only[GD]
    cases nI y.1<;>cases nI y.2.1<;>cases q<;>simp
   | succ i=>
    have hp:l[i]? =some (l[i]'(by omega)):=aG (by omega)
    have ep:GD l (i+1) y= !kLt (l[i]'(by omega)) y:=by simp only[GD,hp]
    have hpos:decide (((i+1:Nat):Int)>0)=true:=by simp
    rw[FZ (by omega) (by omega),hp,ep,hpos]
    simp only[Y7,Zk]
    rw[Mf _ (by simp),Y7]
    dsimp only
    rw[We]
    generalize (!kLt (l[i]'(by omega)) y)=p
    cases nI y.1<;>cases nI y.2.1<;>cases q<;>cases p<;>simp
  ·intro again
   unfold kQ
   dsimp only
   rw[aA (by omega)]
  ·omega
theorem FL {l:List aC} (h:iQ l=0):l.length≤500∧(∀ (i j:Nat) (x y:aC),i<j→l[i]? =some x→l[j]? =some y→kLt x y=true)∧∀ m∈l,qOk m.2.2 true=true:=by
 unfold iQ at h
 split at h
 ·omega
 have hz:=jW h
 have hz':∀ i y,l[i]? =some y→GD l i y=false∧qOk y.2.2 true=true:=fun i y hy=>by
  have:=hz i y hy
  rw[Y4] at this
  unfold NC at this
  split at this
  ·omega
  split at this
  ·omega
  split at this
  ·omega
  rename_i h1
  split at this
  ·rename_i h2;exact⟨by simpa using h1,h2⟩
  ·omega
 refine⟨by omega, ?_,fun m hm=> ?_⟩
 ·have step:∀ i x y,l[i]? =some x→l[i+1]? =some y→kLt x y=true:=fun i x y hx hy=>by
   have:=(hz' (i+1) y hy).1
   simp only[GD,hx] at this
   simpa using this
  intro i j x y hij hx hy
  induction j generalizing y with
  | zero=>omega
  | succ j ih=>
   rcases YS.1 hij with h1 | h1
   ·have hj:j<l.length:=by have:=(XN.1 hy).1;omega
    have hz:l[j]? =some l[j]:=aG hj
    exact S7 (ih _ h1 hz) (step j _ y hz hy)
   ·subst h1;exact step i x y hx hy
 ·obtain⟨i,hi⟩:=Yh.1 hm
  exact (hz' i m hi).2
end Go.Md
namespace Go.Md
open Go.Dn
def mEq (a u:List UInt8) (x:aC):Bool:=x.1==a&&x.2.1==u
def zV (l:List aC) (a u:List UInt8):Option ai:=(l.find? (mEq a u)).map (·.2.2)
def toM (x:aC):bC×ai:=((x.1,x.2.1),x.2.2)
def LK (m:List (bC×ai)) (x:bC):Option ai:=cD (k:=fh) (v:=aR) m x
def RU (m:List (bC×ai)) (x:bC) (y:ai):List (bC×ai):=rS (k:=fh) (v:=aR) m x y
theorem Tw (p:bC×ai) (m:List (bC×ai)) (x:bC):LK (p::m) x=bif (x.1==p.1.1&&x.2==p.1.2) then some p.2 else LK m x:=Tj (k:=fh) (v:=aR) p m x
theorem Tx (p:bC×ai) (m:List (bC×ai)) (x:bC) (y:ai):RU (p::m) x y=bif (x.1==p.1.1&&x.2==p.1.2) then (x,y)::m else p::RU m x y:=rfl
theorem Ui (m:List (bC×ai)) (x:bC) (y:ai) (h:∀ p∈m,(x.1==p.1.1&&x.2==p.1.2)=false):RU m x y=m++[(x,y)]:=by
 induction m with
 | nil=>rfl
 | cons p r ih=>
  rw[Tx,h p (by simp),Zj,ih fun q hq=>h q (by simp[hq])]
  rfl
theorem Uh (l:List aC) (a u:List UInt8):LK (l.map toM) (a,u)=zV l a u:=by
 unfold zV
 induction l with
 | nil=>rfl
 | cons x r ih=>
  have e:(a==x.1&&u==x.2.1)=mEq a u x:=by
   unfold mEq
   rw[show (a==x.1)=(x.1==a) from Bool.beq_comm ..,show (u==x.2.1)=(x.2.1==u) from Bool.beq_comm ..]
  rw[X8,Tw,List.find?_cons]
  show (bif (a==x.1&&u==x.2.1) then some x.2.2 else LK (r.map toM) (a,u))=_
  rw[e,ih]
  cases mEq a u x<;>rfl
theorem EM (x1:gM) (again:gM→Option oe):oc x1 again=(
 bif decide (x1.2.2.2.1<x1.2.2.1) then
  Option.bind (idx x1.2.1 x1.2.2.2.1) fun y2=>
  again (x1.1,x1.2.1,x1.2.2.1,w64 (x1.2.2.2.1+1),x1.2.2.2.2.1,x1.2.2.2.2.2.1,RU x1.2.2.2.2.2.2.1 (y2.1,y2.2.1) y2.2.2,())
 else
  some (Sum.inr (x1.1,x1.2.2.2.2.1,x1.2.2.2.2.2.1,x1.2.2.2.2.2.2.1,()))):=rfl
theorem DL (x1:fE) (again:fE→Option nq):kz x1 again=(
 bif decide (x1.2.2.2.2.2.1<x1.2.2.2.2.1) then
  Option.bind (idx x1.2.2.2.1 x1.2.2.2.2.2.1) fun y2=>
  bif !(Option.isSome (LK x1.2.2.2.2.2.2.2.2.2.2.1 (y2.1,y2.2.1))) then
   AE <|
    some (Sum.inl ((x1.2.2.2.2.2.2.2.2.1,x1.2.2.2.2.2.2.2.2.2.1),false,()))
  else
   Option.bind (ig y2.2.2.2 3) fun r3=>
   Option.bind (ig (Option.getD (LK x1.2.2.2.2.2.2.2.2.2.2.1 (y2.1,y2.2.1)) (0,0)) 3) fun r4=>
   Option.bind (gO r3.1 r4.1) fun r5=>
   Option.bind (fk (x1.2.2.2.2.2.2.2.2.1,x1.2.2.2.2.2.2.2.2.2.1) r5.1) fun r6=>
   again (x1.1,x1.2.1,x1.2.2.1,x1.2.2.2.1,x1.2.2.2.2.1,w64 (x1.2.2.2.2.2.1+1),x1.2.2.2.2.2.2.1,x1.2.2.2.2.2.2.2.1,r6.1.1,r6.1.2,x1.2.2.2.2.2.2.2.2.2.2.1,())
 else
  some (Sum.inr (x1.1,x1.2.1,x1.2.2.1,x1.2.2.2.2.2.2.1,x1.2.2.2.2.2.2.2.1,x1.2.2.2.2.2.2.2.2.1,x1.2.2.2.2.2.2.2.2.2.1,x1.2.2.2.2.2.2.2.2.2.2.1,()))):=rfl
def cW (m:List aC) (c:bz):Option Int:=(zV m c.1 c.2.1).map fun w=>c.2.2.2.1*10 ^ (3 - c.2.2.2.2).toNat*(w.1*10 ^ (3 - w.2).toNat)
def wC (m:List aC):List bz→Int→Option Int
 | [],n=>some n
 | c::r,n=>match cW m c with
  | some x=>wC m r (n+x)
  | none=>none
def pY (p:aa):Int:=p.2.2.1.1*10 ^ (6 - p.2.2.1.2).toNat
def wP (m:List aC):List aa→Int→Option Int
 | [],n=>some n
 | p::r,n=>match wC m p.2.2.2 (n+pY p) with
  | some z=>wP m r z
  | none=>none
def K37:Nat:=10 ^ 37
theorem NL {z:Int} {c:Nat} (hc:c≤100000) (h:z.natAbs≤c*K37):Le 42 z:=by
 unfold Le
 have h1:c*K37≤100000*K37:=YY _ hc
 have h2:100000*K37=10 ^ 42:=by unfold K37;decide
 omega
structure QOk (d:ai):Prop where
 dec:bY d
 pl:d.2≤3
theorem OY {d:ai} {z:Bool} (h:qOk d z=true):QOk d:=by
 unfold qOk at h
 rw[WJ] at h
 have h1:=h.1
 unfold inR at h1
 rw[Zp] at h1
 exact⟨h1.1,h1.2.1⟩
theorem yY {d:ai} (h:QOk d) (k:Nat) (hk:k≤9):Le (15+k) (d.1*10 ^ ((k:Int) - d.2).toNat):=
 (Le.dec h.dec).mul ((Le.pow _).mono (by have:=h.dec.2;omega))
theorem TY {m:List aC} {c:bz} (hm:∀ x∈m,qOk x.2.2 true=true) (hc:QOk c.2.2.2) {z:Int} (h:cW m c=some z):Le 36 z∧∃ w,zV m c.1 c.2.1=some w∧QOk w∧z=c.2.2.2.1*10 ^ (3 - c.2.2.2.2).toNat*(w.1*10 ^ (3 - w.2).toNat):=by
 unfold cW at h
 cases hl:zV m c.1 c.2.1 with
 | none=>rw[hl] at h;cases h
 | some w=>
  rw[hl] at h
  simp only[Zc,Option.some.injEq] at h
  have hw:QOk w:=by
   unfold zV at hl
   cases hf:m.find? (mEq c.1 c.2.1) with
   | none=>rw[hf] at hl;cases hl
   | some x=>
    rw[hf] at hl
    simp only[Zc,Option.some.injEq] at hl
    subst hl
    exact OY (hm x (List.mem_of_find?_eq_some hf))
  refine⟨?_,w,rfl,hw,h.symm⟩
  rw[← h]
  exact (yY hc 3 (by omega)).mul (yY hw 3 (by omega))
theorem Le.k37 {z:Int} (h:Le 36 z):z.natAbs≤K37:=YN h (Y2 (by omega) (by omega))
theorem Nq (m:List aC) (hm:∀ x∈m,qOk x.2.2 true=true) (gp:List aa) (g1 g2:Int) (cs:List bz) (hcs:∀ c∈cs,QOk c.2.2.2) (hl:cs.length≤100) (b1:Bool) (b2:List Int) (n:Int) (C:Nat) (hC:C≤90000) (hn:n.natAbs≤C*K37) (f:Nat) (hf:cs.length<f):
 (∃ z,wC m cs n=some z∧z.natAbs≤(C+cs.length)*K37∧iter f ((gp,g1,g2,cs,(cs.length:Int),(0:Int),b1,b2,(W n).1,(W n).2,m.map toM,()):fE) kz=some (Sum.inr (gp,g1,g2,b1,b2,(W z).1,(W z).2,m.map toM,())))∨
 (wC m cs n=none∧∃ q,iter f ((gp,g1,g2,cs,(cs.length:Int),(0:Int),b1,b2,(W n).1,(W n).2,m.map toM,()):fE) kz=some (Sum.inl (Sum.inl (q,false,())))):=by
 refine bJ (Inv:=fun i X=>∃ z:Int,X=((gp,g1,g2,cs,(cs.length:Int),(i:Int),b1,b2,(W z).1,(W z).2,m.map toM,()):fE)∧wC m (cs.drop i) z=wC m cs n∧z.natAbs≤(C+i)*K37) cs.length
  (fun r=>(∃ z,wC m cs n=some z∧z.natAbs≤(C+cs.length)*K37∧r=some (Sum.inr (gp,g1,g2,b1,b2,(W z).1,(W z).2,m.map toM,())))∨(wC m cs n=none∧∃ q,r=some (Sum.inl (Sum.inl (q,false,()))))) ?_ ?_ f 0 _ ⟨n,rfl,rfl,by simpa using hn⟩ (by omega) (by omega)
 ·rintro i _ again hi ⟨z,rfl,h1,h2⟩ ih
  rw[DL]
  dsimp only
  have hy:cs[i]? =some cs[i]:=aG hi
  have hyq:=hcs _ (XW hi)
  have hcons:=Eb hy
  generalize cs[i]=c at hy hyq hcons
  rw[hcons] at h1
  simp only[wC] at h1
  rw[az (by omega),bA,hy,Y7,Uh]
  cases hcw:cW m c with
  | none=>
   rw[hcw] at h1
   have hno:zV m c.1 c.2.1=none:=by
    unfold cW at hcw
    cases hl:zV m c.1 c.2.1 with
    | none=>rfl
    | some w=>rw[hl] at hcw;cases hcw
   rw[hno]
   exact .inr ⟨h1.symm,_,rfl⟩
  | some x=>
   rw[hcw] at h1
   obtain⟨hx,w,hw1,hw2,hw3⟩:=TY hm hyq hcw
   have d1:=hyq.dec.1;have d2:=hyq.dec.2;have d3:=hyq.pl;have e1:=hw2.dec.1;have e2:=hw2.dec.2;have e3:=hw2.pl
   have s1:Le 18 (c.2.2.2.1*10 ^ ((3:Int) - c.2.2.2.2).toNat):=yY hyq 3 (by omega)
   have s2:Le 18 (w.1*10 ^ ((3:Int) - w.2).toNat):=yY hw2 3 (by omega)
   rw[hw1]
   dsimp only[Option.isSome_some,Option.getD_some]
   rw[WU,Zj,pe _ _ (by omega) (by omega) (by omega) (by omega) (by omega),Y7,pe _ _ (by omega) (by omega) (by omega) (by omega) (by omega),Y7]
   dsimp only
   rw[nC _ _ (s1.w (by omega)) (s2.w (by omega)),Y7]
   dsimp only
   rw[← hw3,show ((W z).1,(W z).2)=W z from rfl,jq _ _ ((NL (by omega) h2).w (by omega)) (hx.w (by omega)),Y7,aj (by omega) (by omega)]
   refine ih _ ⟨z+x,rfl,h1, ?_⟩
   have hk:=hx.k37
   have:(C+(i+1))*K37=(C+i)*K37+K37:=by rw[← YD,Nat.succ_mul]
   omega
 ·rintro _ again ⟨z,rfl,h1,h2⟩
  unfold kz
  dsimp only
  rw[aA (by omega)]
  rw[List.drop_length] at h1
  exact .inl ⟨z,h1.symm,h2,rfl⟩
structure CZ (p:aa):Prop where
 t:QOk p.2.2.1
 n:p.2.2.2.length≤100
 c:∀ c∈p.2.2.2,QOk c.2.2.2
theorem zM (ps:List aa) (hps:∀ p∈ps,CZ p) (hl:ps.length≤500) (m:List aC) (hm0:iQ m=0):
 (∃ z,wP m ps 0=some z∧Le 42 z∧jN ps m=some (W z,true,()))∨(wP m ps 0=none∧∃ q,jN ps m=some (q,false,())):=by
 obtain⟨hml,hms,hm⟩:=FL hm0
 unfold jN
 have build:∀ f,m.length<f→iter f ((ps,m,(m.length:Int),(0:Int),false,([]:List Int),([]:List (bC×ai)),()):gM) oc=some (Sum.inr (ps,false,[],m.map toM,())):=by
  intro f hf
  refine bJ (Inv:=fun i X=>X=((ps,m,(m.length:Int),(i:Int),false,([]:List Int),(m.take i).map toM,()):gM)) m.length (fun r=>r=some (Sum.inr (ps,false,[],m.map toM,()))) ?_ ?_ f 0 _ rfl (by omega) (by omega)
  ·rintro i _ again hi rfl ih
   rw[EM]
   dsimp only
   have hy:m[i]? =some m[i]:=aG hi
   have htk:=lg hy
   generalize m[i]=y at hy htk
   rw[az (by omega),bA,hy,Y7,aj (by omega) (by omega),Ui]
   ·refine ih _ ?_
    rw[htk,X6]
    rfl
   ·intro p hp
    rw[Yi] at hp
    obtain⟨x,hx,rfl⟩:=hp
    obtain⟨j,hj⟩:=Yh.1 hx
    have hji:j<i:=by
     have:=(XN.1 hj).1
     simp at this;omega
    have hj':m[j]? =some x:=by rw[XT] at hj;rwa [Zw hji] at hj
    have hne:=VB (hms j i x y hji hj' hy)
    show (y.1==x.1&&y.2.1==x.2.1)=false
    rw[show (y.1==x.1)=(x.1==y.1) from Bool.beq_comm ..,show (y.2.1==x.2.1)=(x.2.1==y.2.1) from Bool.beq_comm ..]
    exact hne
  ·rintro _ again rfl
   unfold oc
   dsimp only
   rw[aA (by omega),YB (YM _)]
 rw[build _ (by omega),aF,qN 0 (by omega) (by omega),Y7]
 dsimp only
 have loop:∀ f,ps.length<f→(∃ z,wP m ps 0=some z∧Le 42 z∧iter f ((ps,(ps.length:Int),(0:Int),false,([]:List Int),(W 0).1,(W 0).2,m.map toM,()):jl) lF=some (Sum.inr (false,[],(W z).1,(W z).2,())))∨
  (wP m ps 0=none∧∃ q,iter f ((ps,(ps.length:Int),(0:Int),false,([]:List Int),(W 0).1,(W 0).2,m.map toM,()):jl) lF=some (Sum.inl (q,false,()))):=by
  intro f hf
  refine bJ (Inv:=fun i X=>∃ z:Int,X=((ps,(ps.length:Int),(i:Int),false,([]:List Int),(W z).1,(W z).2,m.map toM,()):jl)∧wP m (ps.drop i) z=wP m ps 0∧z.natAbs≤(101*i)*K37) ps.length
   (fun r=>(∃ z,wP m ps 0=some z∧Le 42 z∧r=some (Sum.inr (false,[],(W z).1,(W z).2,())))∨(wP m ps 0=none∧∃ q,r=some (Sum.inl (q,false,())))) ?_ ?_ f 0 _ ⟨0,rfl,rfl,by simp⟩ (by omega) (by omega)
  ·rintro i _ again hi ⟨z,rfl,h1,h2⟩ ih
   unfold lF
   dsimp only
   have hy:ps[i]? =some ps[i]:=aG hi
   have hyq:=hps _ (XW hi)
   have hcons:=Eb hy
   generalize ps[i]=p at hy hyq hcons
   rw[hcons] at h1
   simp only[wP] at h1
   have d1:=hyq.t.dec.1;have d2:=hyq.t.dec.2;have d3:=hyq.t.pl
   have ht:Le 21 (pY p):=yY hyq.t 6 (by omega)
   rw[az (by omega),bA,hy,Y7,pe _ _ (by omega) (by omega) (by omega) (by omega) (by omega),Y7]
   dsimp only
   rw[show p.2.2.1.1*10 ^ ((6:Int) - p.2.2.1.2).toNat=pY p from rfl,show ((W z).1,(W z).2)=W z from rfl,jq _ _ ((NL (by omega) h2).w (by omega)) (ht.w (by omega)),Y7]
   dsimp only
   have hk:=(ht.mono (show 21≤36 by omega)).k37
   have hb:(z+pY p).natAbs≤(101*i+1)*K37:=by
    have:(101*i+1)*K37=101*i*K37+K37:=Nat.succ_mul ..
    omega
   have hin:=Nq m hm ps (ps.length:Int) (i:Int) p.2.2.2 hyq.c hyq.n false [] (z+pY p) (101*i+1) (by omega) hb (List.length ps+(Int.natAbs (ps.length:Int)+(Int.natAbs (i:Int)+(p.2.2.2.length+(Int.natAbs ((p.2.2.2.length:Int))+(Int.natAbs (0:Int)+(List.length ([]:List Int)+(List.length (W (z+pY p)).2+(List.length (m.map toM)+2))))))))) (by omega)
   rcases hin with ⟨z',k1,k2,k3⟩ | ⟨k1,q,k3⟩
   ·rw[k1] at h1
    rw[k3,aF]
    dsimp only
    rw[aj (by omega) (by omega)]
    refine ih _ ⟨z',rfl,h1, ?_⟩
    have:=hyq.n
    exact YN k2 (YY _ (by omega))
   ·rw[k1] at h1
    rw[k3,fR]
    exact .inr ⟨h1.symm,q,rfl⟩
  ·rintro _ again ⟨z,rfl,h1,h2⟩
   unfold lF
   dsimp only
   rw[aA (by omega)]
   rw[List.drop_length] at h1
   exact .inl ⟨z,h1.symm,NL (by omega) h2,rfl⟩
 rcases loop (List.length ps+(Int.natAbs ((List.length ps:Int))+(Int.natAbs (0:Int)+(List.length ([]:List Int)+(List.length (W 0).2+(List.length (m.map toM)+2)))))) (by omega) with ⟨z,h1,h2,h3⟩ | ⟨h1,q,h3⟩
 ·exact .inl ⟨z,h1,h2,by rw[h3,aF]⟩
 ·exact .inr ⟨h1,q,by rw[h3,fR]⟩
end Go.Md
namespace Go.Md
open Go.Dn
def pick (l:List aa) (L:List Nat):List aa:=L.filterMap fun i=>l[i]?
end Go.Md
namespace Go.Md
open Go.Dn
def xP (B:Nat→Bool) (n:Nat):List Nat:=(List.range n).filter B
theorem O5 (B:Nat→Bool) (n:Nat):(xP B n).length≤n:=by
 unfold xP
 exact YN (List.length_filter_le _ _) (by simp)
theorem Q8 {B:Nat→Bool} {n x:Nat} (h:x∈xP B n):x<n:=by
 unfold xP at h
 exact Yl.1 (List.mem_filter.1 h).1
theorem MO (B:Nat→Bool) (n:Nat):xP B (n+1)=if B n=true then xP B n++[n] else xP B n:=by
 unfold xP
 rw[List.range_succ,Xz]
 by_cases h:B n=true
 ·rw[Zw h];simp[h]
 ·rw[Zv h];simp[h]
theorem J7 (a:bn) (hf:CY a) (h:mD a=0) (t:List UInt8):oa a t true=some (if t=[]∨(dR (·.1) t a.2.2.2).isSome=true then 0 else 9,()):=by
 unfold oa
 rw[kO a hf,Y7]
 dsimp only
 have hok:=vE h
 have:=hok.len
 obtain⟨q,h1,h2⟩:=si a t (by omega) hok.asc
 rw[h,show ((0:Int) != 0)=false from rfl,Zj,h1,Y7]
 dsimp only
 cases (dR (fun x:aa=>x.1) t a.2.2.2).isSome with
 | true=>simp
 | false=>cases t<;>simp
theorem NR {a:bn} (h:Ns a) {i T:Nat} (hi:i<a.2.2.2.length) {t:List UInt8} (ht:t≠[]) (hT:dR (·.1) t a.2.2.2=some T):lT a (i:Int) t=some (decide (T∈i::lV a.2.2.2 i),()):=by
 unfold lT
 have hy:a.2.2.2[i]? =some a.2.2.2[i]:=aG hi
 have hlab:=OA h.asc hT hi
 rw[Af hy] at hlab
 rw[show (t==[])=false by cases t<;>simp_all,Zj,bA,hy,Y7,FX h hi hT,Y7]
 by_cases e:a.2.2.2[i].1=t
 ·have:=hlab.1 e
  subst this
  rw[show (a.2.2.2[i].1==t)=true by simpa using e,Zk]
  simp
 ·have hne:¬ i=T:=fun h=>e (hlab.2 h)
  rw[show (a.2.2.2[i].1==t)=false by simpa using e,Zj]
  have hne':¬ T=i:=fun h=>hne h.symm
  simp[hne']
theorem Um (a:bn) (m:List aC) (t:List UInt8) (B:Nat→Bool) (hl:a.2.2.2.length≤500) (hB:∀ i,i<a.2.2.2.length→lT a (i:Int) t=some (B i,())) (f:Nat) (hf:a.2.2.2.length<f):
 iter f ((m,t,([]:List aa),a.2.2.2,(a.2.2.2.length:Int),(0:Int),a.1,a.2.1,a.2.2.1,a.2.2.2,(0:Int),(0:Int),()):lE) n9=some (Sum.inr (m,(xP B a.2.2.2.length).map (fun i=>a.2.2.2.getD i ([],[],(0,0),[])),0,0,())):=by
 obtain⟨a1,a2,a3,l⟩:=a
 dsimp only at*
 refine bJ (Inv:=fun i X=>X=((m,t,(xP B i).map (fun i=>l.getD i ([],[],(0,0),[])),l,(l.length:Int),(i:Int),a1,a2,a3,l,(0:Int),(0:Int),()):lE)) l.length (fun r=>r=some (Sum.inr (m,(xP B l.length).map (fun i=>l.getD i ([],[],(0,0),[])),0,0,()))) ?_ ?_ f 0 _ rfl (by omega) (by omega)
 ·rintro i _ again hi rfl ih
  unfold n9
  dsimp only
  have hy:l[i]? =some l[i]:=aG hi
  have hget:l.getD i ([],[],(0,0),[])=l[i]:=by rw[XE,hy];rfl
  have hwl:=O5 B i
  rw[az (by omega),bA,hy,Y7,hB i hi,Y7,aj (by omega) (by omega)]
  dsimp only
  have hs:=MO B i
  cases hb:B i with
  | true=>
   rw[Zk,aH (ou (by rw[XZ];omega) (by rw[XZ];omega))]
   refine ih _ ?_
   rw[hs,Zw hb,X6,List.map_singleton,hget]
   rfl
  | false=>
   rw[Zj]
   refine ih _ ?_
   rw[hs,Zv (by rw[hb];simp)]
   rfl
 ·rintro _ again rfl
  unfold n9
  dsimp only
  rw[aA (by omega)]
theorem PA {l:List bz} (h:vZ l=0):l.length≤100∧∀ c∈l,QOk c.2.2.2:=by
 unfold vZ at h
 split at h
 ·omega
 rename_i h1
 refine⟨by omega,fun c hc=> ?_⟩
 obtain⟨i,hi⟩:=Yh.1 hc
 have:=jW h i c hi
 unfold Jo at this
 split at this
 ·omega
 split at this
 ·omega
 split at this
 ·omega
 split at this
 ·omega
 split at this
 ·rename_i hq;exact OY hq
 ·omega
theorem LG {a:bn} (h:mD a=0):∀ p∈a.2.2.2,CZ p:=by
 unfold mD at h
 split at h
 ·omega
 split at h
 ·omega
 split at h
 ·omega
 split at h
 ·omega
 split at h
 ·omega
 have h3:cS (lJ a.2.2.2) 0 a.2.2.2=0:=by omega
 intro p hp
 obtain⟨i,hi⟩:=Yh.1 hp
 have:=jW h3 i p hi
 unfold lJ at this
 split at this
 ·omega
 split at this
 ·omega
 split at this
 ·omega
 rename_i hq
 have hc:=PA this
 exact⟨OY (z:=true) (by simpa using hq),hc.1,hc.2⟩
def tell (r:Option Int):ai×Int×Unit:=match r with
 | some z=>if (few 6 z).1.natAbs≤1000000000000000 then (((few 6 z).1,((few 6 z).2:Int)),0,()) else ((0,0),1,())
 | none=>((0,0),5,())
theorem Qu (ps:List aa) (hps:∀ p∈ps,CZ p) (hl:ps.length≤500) (m:List aC) (hm0:iQ m=0):
 (Option.bind (jN ps m) fun r8=>
   bif !r8.2.1 then
    some ((0,0),5,())
   else
    Option.bind (qj r8.1 6) fun r9=>
    some (r9.1,r9.2.1,()))=some (tell (wP m ps 0)):=by
 rcases zM ps hps hl m hm0 with ⟨z,h1,h2,h3⟩ | ⟨h1,q,h3⟩
 ·rw[h3,h1,Y7]
  dsimp only
  rw[WU,Zj,show (6:Int)=((6:Nat):Int) from rfl,H6 z (h2.w (by omega)) 6 (by omega),Y7]
  unfold tell
  dsimp only
 ·rw[h3,h1,Y7];rfl
def lot (l:List aa) (B:Nat→Bool):List aa:=(xP B l.length).map fun i=>l.getD i ([],[],(0,0),[])
theorem VF {l:List aa} {B:Nat→Bool} (hps:∀ p∈l,CZ p):∀ p∈lot l B,CZ p:=by
 intro p hp
 unfold lot at hp
 obtain⟨i,hi,rfl⟩:=Yi.1 hp
 have hlt:=Q8 hi
 rw[XE,aG hlt]
 exact hps _ (XW hlt)
theorem U6 (l:List aa) (B:Nat→Bool):(lot l B).length≤l.length:=by
 unfold lot
 rw[XZ]
 exact O5 ..
def C2 (l:List aa) (t:List UInt8) (i:Nat):Bool:=if t=[] then true else match dR (·.1) t l with
 | some T=>decide (T∈i::lV l i)
 | none=>false
noncomputable def GL (a:bn) (m:List aC) (t:List UInt8):ai×Int×Unit:=
 if mD a≠0 then ((0,0),mD a,()) else if iQ m≠0 then ((0,0),iQ m,())
 else if t=[]∨(dR (·.1) t a.2.2.2).isSome=true then tell (wP m (lot a.2.2.2 (C2 a.2.2.2 t)) 0) else ((0,0),9,())
theorem IZ (a:bn) (hf:CY a) (m:List aC) (t:List UInt8):uK a m t=some (GL a m t):=by
 unfold uK GL
 rw[kO a hf,Y7,vN,Y7]
 dsimp only
 by_cases h:mD a=0
 ·by_cases hm:iQ m=0
  ·rw[J7 a hf h t,Y7]
   dsimp only
   rw[h,hm,show ((0:Int) != 0)=false from rfl,Zj,Zj,Zv (show ¬ ((0:Int)≠0) by simp),Zv (show ¬ ((0:Int)≠0) by simp)]
   have hok:=vE h
   have hl:=hok.len
   by_cases ht:t=[]∨(dR (fun x:aa=>x.1) t a.2.2.2).isSome=true
   ·rw[Zw ht,Zw ht,show ((0:Int) != 0)=false from rfl,Zj]
    have hB:∀ i,i<a.2.2.2.length→lT a (i:Int) t=some (C2 a.2.2.2 t i,()):=fun i hi=>by
     by_cases h0:t=[]
     ·subst h0;rfl
     ·cases hT:dR (fun x:aa=>x.1) t a.2.2.2 with
      | none=>rw[hT] at ht;simp[h0] at ht
      | some T=>rw[NR hok hi h0 hT];unfold C2;rw[Zv h0,hT]
    rw[Um a m t (C2 a.2.2.2 t) hl hB _ (by omega),aF]
    dsimp only
    exact Qu (lot a.2.2.2 (C2 a.2.2.2 t)) (VF (LG h)) (YN (U6 ..) hl) m hm
   ·rw[Zv ht,Zv ht];rfl
  ·rw[h,show ((0:Int) != 0)=false from rfl,Zj,show (iQ m != 0)=true by simpa using hm,Zk,Zv (show ¬ ((0:Int)≠0) by simp),Zw hm]
 ·rw[show (mD a != 0)=true by simpa using h,Zk,Zw h]
end Go.Md
set_option linter.all false
namespace Go.Md.SI
open Go.Dn Go.Md
section
variable {k:Int→Int} {ar:List tU} {ok:Int→Prop}
end
end Go.Md.SI
set_option linter.all false
namespace Go.Md.SP
open Go.Dn Go.Md
structure bD (k:Int→Int) (l l':List Int):Prop where
 perm:l.Perm l'
section
variable {k:Int→Int} {ar:List tU} {ok:Int→Prop}
theorem bD.refl (k:Int→Int) (l:List Int):bD k l l:=⟨List.Perm.refl _⟩
theorem bD.trans {a b c:List Int} (h:bD k a b) (g:bD k b c):bD k a c:=⟨h.perm.trans g.perm⟩
theorem bD.append {a b c d:List Int} (h:bD k a b) (g:bD k c d):bD k (a++c) (b++d):=⟨h.perm.append g.perm⟩
theorem bD.mem {a b:List Int} (h:bD k a b) {x:Int}:x∈b↔x∈a:=h.perm.mem_iff.symm
theorem bD.length {a b:List Int} (h:bD k a b):b.length=a.length:=h.perm.length_eq.symm
theorem bD.swap {u v:List Int}:bD k (u++v) (v++u):=⟨List.perm_append_comm⟩
def Srt (_:Int→Int) (_:List Int):Prop:=True
theorem Srt.left {a b:List Int} (_:Srt k (a++b)):Srt k a:=trivial
theorem Srt.right {a b:List Int} (_:Srt k (a++b)):Srt k b:=trivial
def ChS (_:Int→Int) (_:Nat) (_:List Int):Prop:=True
theorem ChS.nil (k:Int→Int) (n:Nat):ChS k n []:=trivial
theorem Ov {P2 P3:List Int} {x:Int}:Srt k (P2++x::P3)∧bD k (P2++P3++[x]) (P2++x::P3):=by
 refine⟨trivial, ?_⟩
 rw[Xm]
 exact (bD.refl k P2).append (by simpa using bD.swap (k:=k) (u:=P3) (v:=[x]))
end
end Go.Md.SP
namespace Go.Md
open Go.Dn
def v9 (d:ai):Int:=d.1*10 ^ ((9:Int) - d.2).toNat
theorem Jb {d:ai} (h:bY d):rG d=some (W (v9 d),()):=by
 unfold rG
 have h1:=h.1;have h2:=h.2
 rw[pe d 9 (by omega) (by omega) (by omega) (by omega) (by omega),Y7]
 rfl
theorem NJ {d:ai} (h:bY d):Le 24 (v9 d):=(Le.dec h).mul ((Le.pow (9 - d.2).toNat).mono (show (9 - d.2).toNat≤9 by have:=h.2;omega))
def opn (y:tU):ai:=y.2.2.2.2.2.2.2.2.2
end Go.Md
namespace Go.Md
open Go.Dn
end Go.Md
namespace Go.Md
open Go.Dn
def Low (os os':List Int):Prop:=os'.length=os.length∧∀ (i:Nat) (x y:Int),os[i]? =some x→os'[i]? =some y→0≤y∧y≤x
theorem Low.trans {a b c:List Int} (h:Low a b) (g:Low b c):Low a c:=by
 refine⟨g.1.trans h.1,fun i x y hx hy=> ?_⟩
 have hi:i<b.length:=by have:=(XN.1 hx).1;have:=h.1;omega
 have hb:b[i]? =some b[i]:=aG hi
 have h1:=h.2 i x _ hx hb
 have h2:=g.2 i _ y hb hy
 omega
theorem Low.refl {a:List Int} (h:∀ x∈a,0≤x):Low a a:=by
 refine⟨rfl,fun i x y hx hy=> ?_⟩
 rw[hx] at hy;cases hy
 exact⟨h _ (Yj hx),W0 _⟩
theorem Low.set {a:List Int} (h:∀ x∈a,0≤x) {k:Nat} {x z:Int} (hk:a[k]? =some x) (hz:0≤z) (hz':z≤x):Low a (a.set k z):=by
 refine⟨by simp,fun i u v hu hv=> ?_⟩
 by_cases e:k=i
 ·subst e
  rw[hk] at hu;cases hu
  rw[XS (XN.1 hk).1] at hv
  cases hv;exact⟨hz,hz'⟩
 ·rw[XR e,hu] at hv
  cases hv;exact⟨h _ (Yj hu),W0 _⟩
theorem Low.le {k:Nat} {a b:List Int} (h:Low a b) (ha:∀ x∈a,Le k x):∀ x∈b,Le k x:=by
 intro x hx
 obtain⟨i,hi⟩:=Yh.1 hx
 have hlt:i<a.length:=by have:=(XN.1 hi).1;have:=h.1;omega
 have h1:=h.2 i _ x (aG hlt) hi
 have h2:=ha _ (XW hlt)
 unfold Le at*
 omega
end Go.Md
namespace Go.Md
open Go.Dn
end Go.Md
namespace Go.Md
open Go.Dn
def Uw:List aC→Int
 | []=>0
 | x::r=>v9 x.2.2+Uw r
end Go.Md
namespace Go.Md
open Go.Dn
end Go.Md
namespace Go.Md
open Go.Dn
def VU:List CX→Int
 | []=>0
 | x::r=>v9 x.2.1+VU r
def Vw (lines:List tU) (x:CX):Prop:=bY x.2.1∧∃ s∈lines,s.1=x.1∧v9 x.2.1≤v9 (opn s)
end Go.Md
namespace Go.Md
open Go.Dn
structure Wp (items:List aC) (lines:List tU) (out:List CX) (left:List aC):Prop where
 ilen:items.length≤100
 iok:∀ y∈items,bY y.2.2
 llen:lines.length≤500
 lok:∀ y∈lines,bY (opn y)
 olen:out.length≤500
 ook:∀ x∈out,Vw lines x
 rlen:left.length≤100
 rok:∀ y∈left,bY y.2.2
 sum:Uw items=Uw left+VU out
theorem Ng {a b:ai} (ha:bY a) (hb:bY b):wI a b=some (decide (v9 a≤v9 b),()):=by
 unfold wI LL
 rw[MI a 9 ha ha.2.2 (by omega),MI b 9 hb hb.2.2 (by omega),Y7,Y7]
 dsimp only
 have h1:=(NJ ha).n (by omega);have h2:=(NJ hb).n (by omega)
 unfold v9 at*
 rw[MJ _ _ (by omega) (by omega),Y7,Y7]
 congr 2
 generalize a.1*10 ^ ((9:Int) - a.2).toNat=x
 generalize b.1*10 ^ ((9:Int) - b.2).toNat=y
 rcases W1 x y with h | h | h
 ·rw[Xc (by omega)];simp;omega
 ·subst h;simp
 ·rw[Xd (by omega)];simp;omega
end Go.Md
