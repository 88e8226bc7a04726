/-
  Plain facts: the sheet of an invoice, by the program; the plain law BillRightIsNotWrong is true of all data. No condition.
-/
import Derived.Test.YtalfglakknbjkaaGreatDoorHt
import Derived.Test.YtalfglakknbjkaaGreatDoorHn
set_option linter.all false
namespace Go.Md
open Go.Dn
theorem BQ (z:Int):jr (W z)=some (l9 z,()):=zw z
theorem uh {zs:List Int} {i:Nat} {z:Int} (h:zs[i]? =some z):bq (zs.take (i+1))=(bq (zs.take i)&&l9 z):=by
 unfold bq
 rw [Xs,h,List.all_append];simp
theorem Bf {zs:List Int} {i:Nat} {z:Int} (h:zs[i]? =some z) (hz:l9 z=false):bq zs=false:=by
 unfold bq
 rw [List.all_eq_false]
 exact ⟨z,List.mem_of_getElem? h,by simp [hz]⟩
theorem contains_eq (zs:List Int) (hl:zs.length≤1000):iC (zs.map W) ()=some (!bq zs,()):=by
 unfold iC nD
 have loop:∀ f,zs.length<f→(bq zs=true∧iter f ((zs.map W,(),(zs.length:Int),(0:Int),()):fP) fQ=some (Sum.inr ()))∨
  (bq zs=false∧∃ j:Nat,iter f ((zs.map W,(),(zs.length:Int),(0:Int),()):fP) fQ=some (Sum.inl ((j:Int),()))):=by
  intro f hf
  refine bS (Inv:=fun i X=>X=(zs.map W,(),(zs.length:Int),(i:Int),())∧bq (zs.take i)=true) zs.length (fun r=>(bq zs=true∧r=some (Sum.inr ()))∨(bq zs=false∧∃ j:Nat,r=some (Sum.inl ((j:Int),())))) ?_ ?_ f 0 _ ⟨rfl,rfl⟩ (by omega) (by omega)
  ·rintro i _ again hi ⟨rfl,hal⟩ ih
   unfold fQ
   dsimp only
   have hz:zs[i]? =some zs[i]:=aR hi
   generalize zs[i]=z at hz
   rw [aM (by omega),bM,List.getElem?_map,hz,X3,Option.bind_some]
   unfold sw
   rw [BQ,Option.bind_some,Option.bind_some]
   dsimp only
   cases h:l9 z with
   | true=>
    rw [Bool.not_true,cond_false,aJ (by omega) (by omega)]
    exact ih _ ⟨rfl,by rw [uh hz,hal,h];rfl⟩
   | false=>exact .inr ⟨Bf hz h,i,rfl⟩
  ·rintro _ again ⟨rfl,hal⟩
   unfold fQ
   dsimp only
   rw [Xv (XE _)] at hal
   rw [aN (by omega)]
   exact .inl ⟨hal,rfl⟩
 rw [WY]
 rcases loop (zs.length+(Int.natAbs ((zs.length:Int))+(Int.natAbs (0:Int)+2))) (by omega) with ⟨h,e⟩ | ⟨h,j,e⟩
 ·rw [e,aL,Option.bind_some,h];rfl
 ·rw [e,mR,Option.bind_some,h]
  dsimp only
  rw [X9 (show (j:Int)≥0 by omega)];rfl
theorem Ib (zs:List Int) (hl:zs.length≤1000):bO (zs.map W) ()=some (!bq zs,()):=by
 unfold bO mj
 have loop:∀ f,zs.length<f→(bq zs=true∧iter f ((zs.map W,(),(zs.length:Int),(0:Int),()):eM) eF=some (Sum.inr ()))∨
  (bq zs=false∧∃ j:Nat,iter f ((zs.map W,(),(zs.length:Int),(0:Int),()):eM) eF=some (Sum.inl ((j:Int),()))):=by
  intro f hf
  refine bS (Inv:=fun i X=>X=(zs.map W,(),(zs.length:Int),(i:Int),())∧bq (zs.take i)=true) zs.length (fun r=>(bq zs=true∧r=some (Sum.inr ()))∨(bq zs=false∧∃ j:Nat,r=some (Sum.inl ((j:Int),())))) ?_ ?_ f 0 _ ⟨rfl,rfl⟩ (by omega) (by omega)
  ·rintro i _ again hi ⟨rfl,hal⟩ ih
   unfold eF
   dsimp only
   have hz:zs[i]? =some zs[i]:=aR hi
   generalize zs[i]=z at hz
   rw [aM (by omega),bM,List.getElem?_map,hz,X3,Option.bind_some]
   unfold uY
   rw [BQ,Option.bind_some,Option.bind_some]
   dsimp only
   cases h:l9 z with
   | true=>
    rw [Bool.not_true,cond_false,aJ (by omega) (by omega)]
    exact ih _ ⟨rfl,by rw [uh hz,hal,h];rfl⟩
   | false=>exact .inr ⟨Bf hz h,i,rfl⟩
  ·rintro _ again ⟨rfl,hal⟩
   unfold eF
   dsimp only
   rw [Xv (XE _)] at hal
   rw [aN (by omega)]
   exact .inl ⟨hal,rfl⟩
 rw [WY]
 rcases loop (zs.length+(Int.natAbs ((zs.length:Int))+(Int.natAbs (0:Int)+2))) (by omega) with ⟨h,e⟩ | ⟨h,j,e⟩
 ·rw [e,aL,Option.bind_some,h];rfl
 ·rw [e,mR,Option.bind_some,h]
  dsimp only
  rw [X9 (show (j:Int)≥0 by omega)];rfl
theorem OV (zs:List Int) (hl:zs.length≤1000):gL (zs.map W) ()=some (!bq zs,()):=by
 unfold gL l7
 have loop:∀ f,zs.length<f→(bq zs=true∧iter f ((zs.map W,(),(zs.length:Int),(0:Int),()):eP) eV=some (Sum.inr ()))∨
  (bq zs=false∧∃ j:Nat,iter f ((zs.map W,(),(zs.length:Int),(0:Int),()):eP) eV=some (Sum.inl ((j:Int),()))):=by
  intro f hf
  refine bS (Inv:=fun i X=>X=(zs.map W,(),(zs.length:Int),(i:Int),())∧bq (zs.take i)=true) zs.length (fun r=>(bq zs=true∧r=some (Sum.inr ()))∨(bq zs=false∧∃ j:Nat,r=some (Sum.inl ((j:Int),())))) ?_ ?_ f 0 _ ⟨rfl,rfl⟩ (by omega) (by omega)
  ·rintro i _ again hi ⟨rfl,hal⟩ ih
   unfold eV
   dsimp only
   have hz:zs[i]? =some zs[i]:=aR hi
   generalize zs[i]=z at hz
   rw [aM (by omega),bM,List.getElem?_map,hz,X3,Option.bind_some]
   unfold ya
   rw [BQ,Option.bind_some,Option.bind_some]
   dsimp only
   cases h:l9 z with
   | true=>
    rw [Bool.not_true,cond_false,aJ (by omega) (by omega)]
    exact ih _ ⟨rfl,by rw [uh hz,hal,h];rfl⟩
   | false=>exact .inr ⟨Bf hz h,i,rfl⟩
  ·rintro _ again ⟨rfl,hal⟩
   unfold eV
   dsimp only
   rw [Xv (XE _)] at hal
   rw [aN (by omega)]
   exact .inl ⟨hal,rfl⟩
 rw [WY]
 rcases loop (zs.length+(Int.natAbs ((zs.length:Int))+(Int.natAbs (0:Int)+2))) (by omega) with ⟨h,e⟩ | ⟨h,j,e⟩
 ·rw [e,aL,Option.bind_some,h];rfl
 ·rw [e,mR,Option.bind_some,h]
  dsimp only
  rw [X9 (show (j:Int)≥0 by omega)];rfl
theorem Ow (zs:List Int) (hl:zs.length≤1000):gM (zs.map W) ()=some (!bq zs,()):=by
 unfold gM mb
 have loop:∀ f,zs.length<f→(bq zs=true∧iter f ((zs.map W,(),(zs.length:Int),(0:Int),()):eL) eU=some (Sum.inr ()))∨
  (bq zs=false∧∃ j:Nat,iter f ((zs.map W,(),(zs.length:Int),(0:Int),()):eL) eU=some (Sum.inl ((j:Int),()))):=by
  intro f hf
  refine bS (Inv:=fun i X=>X=(zs.map W,(),(zs.length:Int),(i:Int),())∧bq (zs.take i)=true) zs.length (fun r=>(bq zs=true∧r=some (Sum.inr ()))∨(bq zs=false∧∃ j:Nat,r=some (Sum.inl ((j:Int),())))) ?_ ?_ f 0 _ ⟨rfl,rfl⟩ (by omega) (by omega)
  ·rintro i _ again hi ⟨rfl,hal⟩ ih
   unfold eU
   dsimp only
   have hz:zs[i]? =some zs[i]:=aR hi
   generalize zs[i]=z at hz
   rw [aM (by omega),bM,List.getElem?_map,hz,X3,Option.bind_some]
   unfold tQ
   rw [BQ,Option.bind_some,Option.bind_some]
   dsimp only
   cases h:l9 z with
   | true=>
    rw [Bool.not_true,cond_false,aJ (by omega) (by omega)]
    exact ih _ ⟨rfl,by rw [uh hz,hal,h];rfl⟩
   | false=>exact .inr ⟨Bf hz h,i,rfl⟩
  ·rintro _ again ⟨rfl,hal⟩
   unfold eU
   dsimp only
   rw [Xv (XE _)] at hal
   rw [aN (by omega)]
   exact .inl ⟨hal,rfl⟩
 rw [WY]
 rcases loop (zs.length+(Int.natAbs ((zs.length:Int))+(Int.natAbs (0:Int)+2))) (by omega) with ⟨h,e⟩ | ⟨h,j,e⟩
 ·rw [e,aL,Option.bind_some,h];rfl
 ·rw [e,mR,Option.bind_some,h]
  dsimp only
  rw [X9 (show (j:Int)≥0 by omega)];rfl
theorem NC (l:List aa) (hl:l.length≤1000):mH l=some (l,()):=by
 unfold mH
 have hc:(decide ((0+l.length)*32≤140737488355328)&&decide (0+l.length≤maxLen))=true:=by
  simp only [VZ,decide_eq_true_eq];rw [NX];omega
 rw [aT hc]
 cases l with
 | nil=>exact SW _
 | cons x r=>rfl
def shW (p:Nat×Int):aC:=((p.1:Int),W p.2)
def cQ (n:Nat) (fl:List Nat):List Bool:=(List.range n).map fun k=>fl.contains k
theorem qm (n:Nat) (fl:List Nat):(cQ n fl).length=n:=by simp [cQ]
theorem Uk (n:Nat):cQ n []=List.replicate n false:=by
 unfold cQ
 apply WD
 intro i
 by_cases hi:i<n
 ·rw [List.getElem?_map,WM hi,WN,if_pos hi];rfl
 ·rw [WL (by simp;omega),WL (by simp;omega)]
theorem Du {n k:Nat} (fl:List Nat):(cQ n fl).set k true=cQ n (fl++[k]):=by
 apply WD
 intro i
 by_cases hi:i<n
 ·have e:∀ f,(cQ n f)[i]? =some (f.contains i):=fun f=>by unfold cQ;rw [List.getElem?_map,WM hi];rfl
  rw [e]
  by_cases h:k=i
  ·subst h
   rw [WR (by rw [qm];exact hi)];simp
  ·rw [WQ h,e]
   simp [show ¬ i=k from fun x=>h x.symm]
 ·rw [WL (by rw [W2,qm];omega),WL (by rw [qm];omega)]
theorem AR {n k:Nat} (fl:List Nat) (h:k<n):(cQ n fl)[k]? =some (fl.contains k):=by
 unfold cQ;rw [List.getElem?_map,WM h];rfl
theorem Rg (n:Nat):(aW n []).map W=List.replicate n (false,[]):=by
 apply WD
 intro i
 by_cases hi:i<n
 ·rw [List.getElem?_map,mB _ hi,WN,if_pos hi];rfl
 ·rw [WL (by rw [WY,gO];omega),WL (by simp;omega)]
def Bx (v:ai) (nets lines bases:List Int) (sh:Br) (am:List Int) (has:List Bool) (tx:List Int):ai×(List aa)×(List aa)×(List aa)×(List aC)×(List aa)×(List Bool)×(List aa)×Unit:=
 (v,nets.map W,lines.map W,bases.map W,sh.map shW,am.map W,has,tx.map W,())
theorem Cu (v:ai):∀ (a b:List av),gm v (a++b)=match gm v a with | some l=>(gm v b).map (l++ ·) | none=>none
 | [],b=>by simp [gm]
 | x::a,b=>by
  simp only [Wv,gm]
  cases Cz v x with
  | none=>rfl
  | some n=>
   dsimp only
   rw [Cu v a b]
   cases gm v a with
   | none=>rfl
   | some l=>cases gm v b<;>rfl
def O7 (v:ai) (x:av):Nat:=(jd (·.1) x.2.2.2.2.2.2.2.2 (aq v)).getD 0
theorem QD {v:ai} {l:List av} {i:Nat} {x:av} (hx:l[i]? =some x) {b:Br} (h:gm v (l.take i)=some b):
 gm v (l.take (i+1))=(Cz v x).map fun n=>b++[(O7 v x,n)]:=by
 rw [Xs,hx,Cu,h]
 simp only [Option.toList,gm]
 cases Cz v x<;>rfl
theorem QK {v:ai} {l:List av} {i:Nat} (h:gm v (l.take i)=none):gm v l=none:=by
 have:=Cu v (l.take i) (l.drop i)
 rw [Xt,h] at this
 exact this
theorem C7:MU=1000000000000000:=rfl
structure iL (n:Nat) (b:Br):Prop where
 ix:∀ p∈b,p.1<n
 am:∀ p∈b,(p.2.natAbs:Int)≤MU
theorem Vi {n:Nat} {b:Br} (h:iL n b) (k:Nat):(atB b k).natAbs≤b.length*1000000000000000:=by
 have am:=h.am
 have hMU:=C7
 clear h
 induction b with
 | nil=>simp [atB]
 | cons p b ih=>
  have h1:=ih fun q hq=>am q (Xa _ hq)
  have h2:=am p Xb
  simp only [atB,WW,Xy,XR]
  split<;>omega
theorem P9 {n:Nat} {b:Br} (h:iL n b) (hl:b.length≤2000) (k:Nat):Le 19 (atB b k):=by
 have h1:=Vi h k
 have h2:b.length*1000000000000000≤2000*1000000000000000:=XP _ hl
 exact Le.int (by omega) (by omega)
theorem C6 {z:Int} (h:(z.natAbs:Int)≤MU):Le 19 z:=by
 have:=C7
 exact Le.int (by omega) (by omega)
theorem Qc {v:ai} (hv:lC v) (f:Nat) (hf:(cI v).length<f) (b0:List aa) (a0 t0:List aa):
 (∃ lb,gm v (cI v)=some lb∧iL (aq v).length lb∧lb.length=(cI v).length∧iter f ((cI v,((cI v).length:Int),(0:Int),v.1,v.2.1,v.2.2.1,v.2.2.2.1,v.2.2.2.2.1,v.2.2.2.2.2.1,v.2.2.2.2.2.2.1,v.2.2.2.2.2.2.2.1,v.2.2.2.2.2.2.2.2,([]:List aa),([]:List aC),List.replicate (Int.toNat ((aq v).length:Int)) ((false,[]):aa),List.replicate (Int.toNat ((aq v).length:Int)) false,b0,a0,t0,()):ir) ke=some (Sum.inr (v.1,v.2.1,v.2.2.1,v.2.2.2.1,v.2.2.2.2.1,v.2.2.2.2.2.1,v.2.2.2.2.2.2.1,v.2.2.2.2.2.2.2.1,v.2.2.2.2.2.2.2.2,(lb.map (·.2)).map W,lb.map shW,(aW (aq v).length lb).map W,cQ (aq v).length (lb.map (·.1)),b0,a0,t0,())))∨
 (gm v (cI v)=none∧∃ b,iter f ((cI v,((cI v).length:Int),(0:Int),v.1,v.2.1,v.2.2.1,v.2.2.2.1,v.2.2.2.2.1,v.2.2.2.2.2.1,v.2.2.2.2.2.2.1,v.2.2.2.2.2.2.2.1,v.2.2.2.2.2.2.2.2,([]:List aa),([]:List aC),List.replicate (Int.toNat ((aq v).length:Int)) ((false,[]):aa),List.replicate (Int.toNat ((aq v).length:Int)) false,b0,a0,t0,()):ir) ke=some (Sum.inl (1,b,()))):=by
 have hrn:0<(aq v).length∧(aq v).length≤20:=hv.rn
 have hln:0<(cI v).length∧(cI v).length≤500:=hv.ln
 refine bS (Inv:=fun i X=>∃ lb,gm v ((cI v).take i)=some lb∧iL (aq v).length lb∧lb.length=i∧X=((cI v,((cI v).length:Int),(i:Int),v.1,v.2.1,v.2.2.1,v.2.2.2.1,v.2.2.2.2.1,v.2.2.2.2.2.1,v.2.2.2.2.2.2.1,v.2.2.2.2.2.2.2.1,v.2.2.2.2.2.2.2.2,(lb.map (·.2)).map W,lb.map shW,(aW (aq v).length lb).map W,cQ (aq v).length (lb.map (·.1)),b0,a0,t0,()):ir)) (cI v).length
  (fun r=>(∃ lb,gm v (cI v)=some lb∧iL (aq v).length lb∧lb.length=(cI v).length∧r=some (Sum.inr (v.1,v.2.1,v.2.2.1,v.2.2.2.1,v.2.2.2.2.1,v.2.2.2.2.2.1,v.2.2.2.2.2.2.1,v.2.2.2.2.2.2.2.1,v.2.2.2.2.2.2.2.2,(lb.map (·.2)).map W,lb.map shW,(aW (aq v).length lb).map W,cQ (aq v).length (lb.map (·.1)),b0,a0,t0,())))∨(gm v (cI v)=none∧∃ b,r=some (Sum.inl (1,b,())))) ?_ ?_ f 0 _ ⟨[],rfl,⟨by simp,by simp⟩,rfl, ?_⟩ (by omega) (by omega)
 ·rintro i _ again hi ⟨lb,h1,h2,h3,rfl⟩ ih
  unfold ke
  dsimp only
  have hx:(cI v)[i]? =some (cI v)[i]:=aR hi
  have hxm:=WU hi
  generalize (cI v)[i]=x at hx hxm
  have hxo:=hv.lines x hxm
  have hstep:=QD hx h1
  rw [aM (by omega),bM,hx,Option.bind_some]
  rw [show (v.1,v.2.1,v.2.2.1,v.2.2.2.1,v.2.2.2.2.1,v.2.2.2.2.2.1,v.2.2.2.2.2.2.1,v.2.2.2.2.2.2.2.1,v.2.2.2.2.2.2.2.2)=v from rfl,QZ hv hxo,Option.bind_some]
  dsimp only
  cases hn:Cz v x with
  | none=>
   rw [hn] at hstep
   exact .inr ⟨QK hstep,_,rfl⟩
  | some d=>
   rw [hn] at hstep
   obtain ⟨hd1,hd2⟩:=NY hn
   rw [X1,Bool.not_true,cond_false, ← hd1]
   obtain ⟨k,hk1,hk2⟩:=AW (aq v) x.2.2.2.2.2.2.2.2 (by omega) hv.asc
   obtain ⟨k',hk'⟩:=X0.1 hxo.rate
   obtain rfl:=hk2 k' hk'
   obtain ⟨rt,hrt,_⟩:=qd hk'
   have hkl:k<(aq v).length:=(List.getElem?_eq_some_iff.1 hrt).1
   have hrk:O7 v x=k:=by unfold O7;rw [hk'];rfl
   rw [hk1,Option.bind_some]
   dsimp only
   have hcm:(cQ (aq v).length (lb.map (·.1)))[k]? =some ((lb.map (·.1)).contains k):=AR _ hkl
   have hbm:((aW (aq v).length lb).map W)[k]? =some (W (atB lb k)):=by rw [List.getElem?_map,mB _ hkl];rfl
   have hck:(decide (0≤(k:Int))&&decide ((k:Int)<(((aW (aq v).length lb).map W).length:Int)))=true:=by
    rw [WY,gO];simp only [VZ,decide_eq_true_eq];omega
   rw [aT (lY (by simp;omega) (by simp;omega)),aT hck,Wo,hbm,Option.bind_some,dD _ _ ((P9 h2 (by omega) k).w (by omega)) ((C6 hd2).w (by omega)),Option.bind_some,aT hck,Option.bind_some,aT (lY (by simp;omega) (by simp;omega)),aT (by rw [qm];simp only [VZ,decide_eq_true_eq];omega),hcm,Option.bind_some,aJ (by omega) (by omega)]
   refine ih _ ⟨lb++[(k,d)],by rw [hstep,hrk];rfl,⟨?_, ?_⟩,by simp [h3], ?_⟩
   ·intro p hp
    rcases W8.1 hp with hp | hp
    ·exact h2.ix p hp
    ·rw [Xj.1 hp];exact hkl
   ·intro p hp
    rcases W8.1 hp with hp | hp
    ·exact h2.am p hp
    ·rw [Xj.1 hp];exact hd2
   ·dsimp only
    rw [← List.map_set,Lc,Du]
    simp only [W4,W6,W7,shW]
    rfl
 ·rintro _ again ⟨lb,h1,h2,h3,rfl⟩
  unfold ke
  dsimp only
  rw [aN (by omega)]
  rw [Xv (XE _)] at h1
  exact .inl ⟨lb,h1,h2,h3,rfl⟩
 ·simp only [W7,Uk,Rg,Wo]
  rfl
theorem MF {v:ai} (hv:lC v):
 (∃ lb,gm v (cI v)=some lb∧iL (aq v).length lb∧lb.length=(cI v).length∧bq (aW (aq v).length lb)=true∧m6 (v,[],[],[],[],[],[],[],())=some (0,Bx v (lb.map (·.2)) (aW (aq v).length lb) (aW (aq v).length lb) lb [] (cQ (aq v).length (lb.map (·.1))) [],()))∨
 ((gm v (cI v)=none∨∃ lb,gm v (cI v)=some lb∧bq (aW (aq v).length lb)=false)∧∃ b,m6 (v,[],[],[],[],[],[],[],())=some (1,b,())):=by
 have hrn:0<(aq v).length∧(aq v).length≤20:=hv.rn
 have hrn':=hv.rn
 unfold m6
 dsimp only
 rw [aT (by simp only [VZ,decide_eq_true_eq];omega),aT (by simp only [VZ,decide_eq_true_eq];omega)]
 rcases Qc hv ((cI v).length+(Int.natAbs (((cI v).length:Int))+(Int.natAbs (0:Int)+(v.1.length+(v.2.1.length+(v.2.2.1.natAbs+(v.2.2.2.1.natAbs+(v.2.2.2.2.1.natAbs+(v.2.2.2.2.2.2.1.length+(v.2.2.2.2.2.2.2.1.length+(v.2.2.2.2.2.2.2.2.length+(List.length ([]:List aa)+(List.length ([]:List aC)+(List.length (List.replicate (Int.toNat ((aq v).length:Int)) ((false,[]):aa))+(List.length (List.replicate (Int.toNat ((aq v).length:Int)) false)+(List.length ([]:List aa)+(List.length ([]:List aa)+(List.length ([]:List aa)+2)))))))))))))))))) (by omega) [] [] [] with ⟨lb,h1,h2,h3,e⟩ | ⟨h1,b,e⟩
 ·rw [e,aL]
  dsimp only
  have hbl:=gO (aq v).length lb
  rw [contains_eq _ (by rw [hbl];omega),Option.bind_some]
  dsimp only
  cases ha:bq (aW (aq v).length lb) with
  | true=>
   rw [Bool.not_true,cond_false,NC _ (by rw [WY,hbl];omega),Option.bind_some]
   exact .inl ⟨lb,h1,h2,h3,ha,rfl⟩
  | false=>exact .inr ⟨.inr ⟨lb,h1,ha⟩,_,rfl⟩
 ·rw [e,mR]
  exact .inr ⟨.inl h1,b,rfl⟩
end Go.Md
namespace Go.Md
open Go.Dn
def RE (v5:((List Int)×Bool×Bool×(List Int)×(List UInt8)×(List UInt8)×Int×Int×Int×Bool×(List aD)×(List av)×(List ay)×(List aa)×(List aa)×(List aa)×(List aC)×(List aa)×(List Bool)×(List aa)×Unit)):Option (Int×(ai×(List aa)×(List aa)×(List aa)×(List aC)×(List aa)×(List Bool)×(List aa)×Unit)×Unit):=
 bif !v5.2.1 then
  Option.bind (fM ((v5.2.2.2.2.1,v5.2.2.2.2.2.1,v5.2.2.2.2.2.2.1,v5.2.2.2.2.2.2.2.1,v5.2.2.2.2.2.2.2.2.1,v5.2.2.2.2.2.2.2.2.2.1,v5.2.2.2.2.2.2.2.2.2.2.1,v5.2.2.2.2.2.2.2.2.2.2.2.1,v5.2.2.2.2.2.2.2.2.2.2.2.2.1),v5.2.2.2.2.2.2.2.2.2.2.2.2.2.2.1,v5.2.2.2.2.2.2.2.2.2.2.2.2.2.1,v5.2.2.2.2.2.2.2.2.2.2.2.2.2.2.2.1,v5.2.2.2.2.2.2.2.2.2.2.2.2.2.2.2.2.1,v5.2.2.2.2.2.2.2.2.2.2.2.2.2.2.2.2.2.1,v5.2.2.2.2.2.2.2.2.2.2.2.2.2.2.2.2.2.2.1,v5.2.2.2.2.2.2.2.2.2.2.2.2.2.2.2.2.2.2.2.1,()) 0 (v5.2.2.1,v5.2.2.2.1)) fun r6=>
  chk (decide (0≤(0:Int))&&decide ((0:Int)<(r6.1.2.2.2.2.2.2.1.length:Int))) <|
  Option.bind (r6.1.2.2.2.2.2.2.1[0]?) fun y7=>
  bif y7 then
   chk (decide (0≤(0:Int))&&decide ((0:Int)<(r6.1.2.2.2.2.2.2.1.length:Int))) <|
   Option.bind (r6.1.2.2.2.2.2.2.1[0]?) fun _=>
   some (0,(r6.1.1,r6.1.2.1,r6.1.2.2.1,r6.1.2.2.2.1,r6.1.2.2.2.2.1,r6.1.2.2.2.2.2.1,List.set r6.1.2.2.2.2.2.2.1 0 true,r6.1.2.2.2.2.2.2.2.1,()),())
  else
   Option.bind (aB (v5.2.2.1,v5.2.2.2.1)) fun r9=>
   chk (decide (0≤(0:Int))&&decide ((0:Int)<(r6.1.2.2.2.2.2.2.1.length:Int))) <|
   Option.bind (r6.1.2.2.2.2.2.2.1[0]?) fun _=>
   some (0,(r6.1.1,r6.1.2.1,r6.1.2.2.1,r6.1.2.2.2.1,r6.1.2.2.2.2.1,r6.1.2.2.2.2.2.1,List.set r6.1.2.2.2.2.2.2.1 0 (r9.1 != 0),r6.1.2.2.2.2.2.2.2.1,()),())
 else
  Option.bind (jb v5.1 ()) fun r11=>
  bif r11.1 then
   some (2,((v5.2.2.2.2.1,v5.2.2.2.2.2.1,v5.2.2.2.2.2.2.1,v5.2.2.2.2.2.2.2.1,v5.2.2.2.2.2.2.2.2.1,v5.2.2.2.2.2.2.2.2.2.1,v5.2.2.2.2.2.2.2.2.2.2.1,v5.2.2.2.2.2.2.2.2.2.2.2.1,v5.2.2.2.2.2.2.2.2.2.2.2.2.1),v5.2.2.2.2.2.2.2.2.2.2.2.2.2.2.1,v5.2.2.2.2.2.2.2.2.2.2.2.2.2.1,v5.2.2.2.2.2.2.2.2.2.2.2.2.2.2.2.1,v5.2.2.2.2.2.2.2.2.2.2.2.2.2.2.2.2.1,v5.2.2.2.2.2.2.2.2.2.2.2.2.2.2.2.2.2.1,v5.2.2.2.2.2.2.2.2.2.2.2.2.2.2.2.2.2.2.1,v5.2.2.2.2.2.2.2.2.2.2.2.2.2.2.2.2.2.2.2.1,()),())
  else
   Option.bind (qs (v5.2.2.1,v5.2.2.2.1) v5.2.2.2.2.2.2.2.1) fun r12=>
   Option.bind (s9 r12.1 v5.1) fun r13=>
   bif r13.2.1 != 0 then
    some (r13.2.1,((v5.2.2.2.2.1,v5.2.2.2.2.2.1,v5.2.2.2.2.2.2.1,v5.2.2.2.2.2.2.2.1,v5.2.2.2.2.2.2.2.2.1,v5.2.2.2.2.2.2.2.2.2.1,v5.2.2.2.2.2.2.2.2.2.2.1,v5.2.2.2.2.2.2.2.2.2.2.2.1,v5.2.2.2.2.2.2.2.2.2.2.2.2.1),v5.2.2.2.2.2.2.2.2.2.2.2.2.2.2.1,v5.2.2.2.2.2.2.2.2.2.2.2.2.2.1,v5.2.2.2.2.2.2.2.2.2.2.2.2.2.2.2.1,v5.2.2.2.2.2.2.2.2.2.2.2.2.2.2.2.2.1,v5.2.2.2.2.2.2.2.2.2.2.2.2.2.2.2.2.2.1,v5.2.2.2.2.2.2.2.2.2.2.2.2.2.2.2.2.2.2.1,v5.2.2.2.2.2.2.2.2.2.2.2.2.2.2.2.2.2.2.2.1,()),())
   else
    aP (β:=(Int×(ai×(List aa)×(List aa)×(List aa)×(List aC)×(List aa)×(List Bool)×(List aa)×Unit)×Unit)) (γ:=((List UInt8)×(List UInt8)×Int×Int×Int×Bool×(List aD)×(List av)×(List ay)×(List aa)×(List aa)×(List aa)×(List aC)×(List aa)×(List Bool)×(List aa)×Unit)) (
     iter (X:=iu) (β:=nu) (r13.1.length+(Int.natAbs ((r13.1.length:Int))+(Int.natAbs (0:Int)+(v5.2.2.2.2.1.length+(v5.2.2.2.2.2.1.length+(v5.2.2.2.2.2.2.1.natAbs+(v5.2.2.2.2.2.2.2.1.natAbs+(v5.2.2.2.2.2.2.2.2.1.natAbs+(v5.2.2.2.2.2.2.2.2.2.2.1.length+(v5.2.2.2.2.2.2.2.2.2.2.2.1.length+(v5.2.2.2.2.2.2.2.2.2.2.2.2.1.length+(v5.2.2.2.2.2.2.2.2.2.2.2.2.2.2.1.length+(v5.2.2.2.2.2.2.2.2.2.2.2.2.2.1.length+(v5.2.2.2.2.2.2.2.2.2.2.2.2.2.2.2.1.length+(v5.2.2.2.2.2.2.2.2.2.2.2.2.2.2.2.2.1.length+(v5.2.2.2.2.2.2.2.2.2.2.2.2.2.2.2.2.2.1.length+(v5.2.2.2.2.2.2.2.2.2.2.2.2.2.2.2.2.2.2.1.length+(v5.2.2.2.2.2.2.2.2.2.2.2.2.2.2.2.2.2.2.2.1.length+2)))))))))))))))))) (r13.1,(r13.1.length:Int),0,v5.2.2.2.2.1,v5.2.2.2.2.2.1,v5.2.2.2.2.2.2.1,v5.2.2.2.2.2.2.2.1,v5.2.2.2.2.2.2.2.2.1,v5.2.2.2.2.2.2.2.2.2.1,v5.2.2.2.2.2.2.2.2.2.2.1,v5.2.2.2.2.2.2.2.2.2.2.2.1,v5.2.2.2.2.2.2.2.2.2.2.2.2.1,v5.2.2.2.2.2.2.2.2.2.2.2.2.2.2.1,v5.2.2.2.2.2.2.2.2.2.2.2.2.2.1,v5.2.2.2.2.2.2.2.2.2.2.2.2.2.2.2.1,v5.2.2.2.2.2.2.2.2.2.2.2.2.2.2.2.2.1,v5.2.2.2.2.2.2.2.2.2.2.2.2.2.2.2.2.2.1,v5.2.2.2.2.2.2.2.2.2.2.2.2.2.2.2.2.2.2.1,v5.2.2.2.2.2.2.2.2.2.2.2.2.2.2.2.2.2.2.2.1,()) (ku)) fun v19=>
    some (0,((v19.1,v19.2.1,v19.2.2.1,v19.2.2.2.1,v19.2.2.2.2.1,v19.2.2.2.2.2.1,v19.2.2.2.2.2.2.1,v19.2.2.2.2.2.2.2.1,v19.2.2.2.2.2.2.2.2.1),v19.2.2.2.2.2.2.2.2.2.1,v19.2.2.2.2.2.2.2.2.2.2.1,v19.2.2.2.2.2.2.2.2.2.2.2.1,v19.2.2.2.2.2.2.2.2.2.2.2.2.1,v19.2.2.2.2.2.2.2.2.2.2.2.2.2.1,v19.2.2.2.2.2.2.2.2.2.2.2.2.2.2.1,v19.2.2.2.2.2.2.2.2.2.2.2.2.2.2.2.1,()),())
def Oo (v8:(Int×Bool×Bool×Int×Int×(List UInt8)×Bool×(List Int)×(List UInt8)×(List UInt8)×Int×Int×Int×Bool×(List aD)×(List av)×(List ay)×(List aa)×(List aa)×(List aa)×(List aC)×(List aa)×(List Bool)×(List aa)×Unit)):Option (Int×(ai×(List aa)×(List aa)×(List aa)×(List aC)×(List aa)×(List Bool)×(List aa)×Unit)×Unit):=
 Option.bind (nH (v8.2.2.2.1,v8.2.2.2.2.1) (if v8.2.2.2.2.1>v8.2.2.2.2.2.2.2.2.2.2.2.1 then v8.2.2.2.2.1 else v8.2.2.2.2.2.2.2.2.2.2.2.1)) fun r9=>
 aP (β:=(Int×(ai×(List aa)×(List aa)×(List aa)×(List aC)×(List aa)×(List Bool)×(List aa)×Unit)×Unit)) (γ:=(Int×Bool×Bool×(List Int)×(List UInt8)×(List UInt8)×Int×Int×Int×Bool×(List aD)×(List av)×(List ay)×(List aa)×(List aa)×(List aa)×(List aC)×(List aa)×(List Bool)×(List aa)×Unit)) (
  bif v8.2.2.1 then
   Option.bind (pK (v8.2.2.2.2.2.2.2.2.1,v8.2.2.2.2.2.2.2.2.2.1,v8.2.2.2.2.2.2.2.2.2.2.1,v8.2.2.2.2.2.2.2.2.2.2.2.1,v8.2.2.2.2.2.2.2.2.2.2.2.2.1,v8.2.2.2.2.2.2.2.2.2.2.2.2.2.1,v8.2.2.2.2.2.2.2.2.2.2.2.2.2.2.1,v8.2.2.2.2.2.2.2.2.2.2.2.2.2.2.2.1,v8.2.2.2.2.2.2.2.2.2.2.2.2.2.2.2.2.1) (v8.2.2.2.2.2.2.1,v8.2.2.2.2.2.2.2.1) (v8.2.2.2.1,v8.2.2.2.2.1)) fun r10=>
   some (Sum.inr (v8.1,v8.2.1,r10.1.1,r10.1.2,v8.2.2.2.2.2.2.2.2.1,v8.2.2.2.2.2.2.2.2.2.1,v8.2.2.2.2.2.2.2.2.2.2.1,v8.2.2.2.2.2.2.2.2.2.2.2.1,v8.2.2.2.2.2.2.2.2.2.2.2.2.1,v8.2.2.2.2.2.2.2.2.2.2.2.2.2.1,v8.2.2.2.2.2.2.2.2.2.2.2.2.2.2.1,v8.2.2.2.2.2.2.2.2.2.2.2.2.2.2.2.1,v8.2.2.2.2.2.2.2.2.2.2.2.2.2.2.2.2.1,v8.2.2.2.2.2.2.2.2.2.2.2.2.2.2.2.2.2.1,v8.2.2.2.2.2.2.2.2.2.2.2.2.2.2.2.2.2.2.1,v8.2.2.2.2.2.2.2.2.2.2.2.2.2.2.2.2.2.2.2.1,v8.2.2.2.2.2.2.2.2.2.2.2.2.2.2.2.2.2.2.2.2.1,v8.2.2.2.2.2.2.2.2.2.2.2.2.2.2.2.2.2.2.2.2.2.1,v8.2.2.2.2.2.2.2.2.2.2.2.2.2.2.2.2.2.2.2.2.2.2.1,v8.2.2.2.2.2.2.2.2.2.2.2.2.2.2.2.2.2.2.2.2.2.2.2.1,()))
  else
   some (Sum.inr (v8.1,v8.2.1,r9.1.1,r9.1.2,v8.2.2.2.2.2.2.2.2.1,v8.2.2.2.2.2.2.2.2.2.1,v8.2.2.2.2.2.2.2.2.2.2.1,v8.2.2.2.2.2.2.2.2.2.2.2.1,v8.2.2.2.2.2.2.2.2.2.2.2.2.1,v8.2.2.2.2.2.2.2.2.2.2.2.2.2.1,v8.2.2.2.2.2.2.2.2.2.2.2.2.2.2.1,v8.2.2.2.2.2.2.2.2.2.2.2.2.2.2.2.1,v8.2.2.2.2.2.2.2.2.2.2.2.2.2.2.2.2.1,v8.2.2.2.2.2.2.2.2.2.2.2.2.2.2.2.2.2.1,v8.2.2.2.2.2.2.2.2.2.2.2.2.2.2.2.2.2.2.1,v8.2.2.2.2.2.2.2.2.2.2.2.2.2.2.2.2.2.2.2.1,v8.2.2.2.2.2.2.2.2.2.2.2.2.2.2.2.2.2.2.2.2.1,v8.2.2.2.2.2.2.2.2.2.2.2.2.2.2.2.2.2.2.2.2.2.1,v8.2.2.2.2.2.2.2.2.2.2.2.2.2.2.2.2.2.2.2.2.2.2.1,v8.2.2.2.2.2.2.2.2.2.2.2.2.2.2.2.2.2.2.2.2.2.2.2.1,()))) fun v11=>
 Option.bind (jr (v11.2.2.1,v11.2.2.2.1)) fun r12=>
 bif !r12.1 then
  some (1,((v11.2.2.2.2.1,v11.2.2.2.2.2.1,v11.2.2.2.2.2.2.1,v11.2.2.2.2.2.2.2.1,v11.2.2.2.2.2.2.2.2.1,v11.2.2.2.2.2.2.2.2.2.1,v11.2.2.2.2.2.2.2.2.2.2.1,v11.2.2.2.2.2.2.2.2.2.2.2.1,v11.2.2.2.2.2.2.2.2.2.2.2.2.1),v11.2.2.2.2.2.2.2.2.2.2.2.2.2.2.1,v11.2.2.2.2.2.2.2.2.2.2.2.2.2.1,v11.2.2.2.2.2.2.2.2.2.2.2.2.2.2.2.1,v11.2.2.2.2.2.2.2.2.2.2.2.2.2.2.2.2.1,v11.2.2.2.2.2.2.2.2.2.2.2.2.2.2.2.2.2.1,v11.2.2.2.2.2.2.2.2.2.2.2.2.2.2.2.2.2.2.1,v11.2.2.2.2.2.2.2.2.2.2.2.2.2.2.2.2.2.2.2.1,()),())
 else
  chk (decide (((v11.2.2.2.2.2.2.2.2.2.2.2.2.2.2.2.2.2.1.length)+1)*32≤140737488355328)&&decide ((v11.2.2.2.2.2.2.2.2.2.2.2.2.2.2.2.2.2.1.length)+1≤maxLen)) <|
  bif v11.2.1 then
   Option.bind (fM ((v11.2.2.2.2.1,v11.2.2.2.2.2.1,v11.2.2.2.2.2.2.1,v11.2.2.2.2.2.2.2.1,v11.2.2.2.2.2.2.2.2.1,v11.2.2.2.2.2.2.2.2.2.1,v11.2.2.2.2.2.2.2.2.2.2.1,v11.2.2.2.2.2.2.2.2.2.2.2.1,v11.2.2.2.2.2.2.2.2.2.2.2.2.1),v11.2.2.2.2.2.2.2.2.2.2.2.2.2.2.1,v11.2.2.2.2.2.2.2.2.2.2.2.2.2.1,v11.2.2.2.2.2.2.2.2.2.2.2.2.2.2.2.1,v11.2.2.2.2.2.2.2.2.2.2.2.2.2.2.2.2.1,v11.2.2.2.2.2.2.2.2.2.2.2.2.2.2.2.2.2.1++[(v11.2.2.1,v11.2.2.2.1)],v11.2.2.2.2.2.2.2.2.2.2.2.2.2.2.2.2.2.2.1,v11.2.2.2.2.2.2.2.2.2.2.2.2.2.2.2.2.2.2.2.1,()) v11.1 (v11.2.2.1,v11.2.2.2.1)) fun r13=>
   chk (decide (0≤v11.1)&&decide (v11.1<(r13.1.2.2.2.2.2.2.1.length:Int))) <|
   Option.bind (r13.1.2.2.2.2.2.2.1[v11.1.toNat]?) fun _=>
   Option.bind (bO r13.1.2.2.2.1 ()) fun r15=>
   bif r15.1 then
    some (1,(r13.1.1,r13.1.2.1,r13.1.2.2.1,r13.1.2.2.2.1,r13.1.2.2.2.2.1,r13.1.2.2.2.2.2.1,List.set r13.1.2.2.2.2.2.2.1 v11.1.toNat true,r13.1.2.2.2.2.2.2.2.1,()),())
   else
    some (0,(r13.1.1,r13.1.2.1,r13.1.2.2.1,r13.1.2.2.2.1,r13.1.2.2.2.2.1,r13.1.2.2.2.2.2.1,List.set r13.1.2.2.2.2.2.2.1 v11.1.toNat true,r13.1.2.2.2.2.2.2.2.1,()),())
  else
   Option.bind (gQ ((v11.2.2.2.2.1,v11.2.2.2.2.2.1,v11.2.2.2.2.2.2.1,v11.2.2.2.2.2.2.2.1,v11.2.2.2.2.2.2.2.2.1,v11.2.2.2.2.2.2.2.2.2.1,v11.2.2.2.2.2.2.2.2.2.2.1,v11.2.2.2.2.2.2.2.2.2.2.2.1,v11.2.2.2.2.2.2.2.2.2.2.2.2.1),v11.2.2.2.2.2.2.2.2.2.2.2.2.2.2.1,v11.2.2.2.2.2.2.2.2.2.2.2.2.2.1,v11.2.2.2.2.2.2.2.2.2.2.2.2.2.2.2.1,v11.2.2.2.2.2.2.2.2.2.2.2.2.2.2.2.2.1,v11.2.2.2.2.2.2.2.2.2.2.2.2.2.2.2.2.2.1++[(v11.2.2.1,v11.2.2.2.1)],v11.2.2.2.2.2.2.2.2.2.2.2.2.2.2.2.2.2.2.1,v11.2.2.2.2.2.2.2.2.2.2.2.2.2.2.2.2.2.2.2.1,()) (v11.2.2.1,v11.2.2.2.1)) fun r16=>
   bif r16.1 != 0 then
    some (r16.1,(r16.2.1.1,r16.2.1.2.1,r16.2.1.2.2.1,r16.2.1.2.2.2.1,r16.2.1.2.2.2.2.1,r16.2.1.2.2.2.2.2.1,r16.2.1.2.2.2.2.2.2.1,r16.2.1.2.2.2.2.2.2.2.1,()),())
   else
    Option.bind (bO r16.2.1.2.2.2.1 ()) fun r17=>
    bif r17.1 then
     some (1,(r16.2.1.1,r16.2.1.2.1,r16.2.1.2.2.1,r16.2.1.2.2.2.1,r16.2.1.2.2.2.2.1,r16.2.1.2.2.2.2.2.1,r16.2.1.2.2.2.2.2.2.1,r16.2.1.2.2.2.2.2.2.2.1,()),())
    else
     some (0,(r16.2.1.1,r16.2.1.2.1,r16.2.1.2.2.1,r16.2.1.2.2.2.1,r16.2.1.2.2.2.2.1,r16.2.1.2.2.2.2.2.1,r16.2.1.2.2.2.2.2.2.1,r16.2.1.2.2.2.2.2.2.2.1,()),())
def B2 (v11:(Int×Bool×Bool×(List Int)×(List UInt8)×(List UInt8)×Int×Int×Int×Bool×(List aD)×(List av)×(List ay)×(List aa)×(List aa)×(List aa)×(List aC)×(List aa)×(List Bool)×(List aa)×Unit)):Option (Int×(ai×(List aa)×(List aa)×(List aa)×(List aC)×(List aa)×(List Bool)×(List aa)×Unit)×Unit):=
 Option.bind (jr (v11.2.2.1,v11.2.2.2.1)) fun r12=>
 bif !r12.1 then
  some (1,((v11.2.2.2.2.1,v11.2.2.2.2.2.1,v11.2.2.2.2.2.2.1,v11.2.2.2.2.2.2.2.1,v11.2.2.2.2.2.2.2.2.1,v11.2.2.2.2.2.2.2.2.2.1,v11.2.2.2.2.2.2.2.2.2.2.1,v11.2.2.2.2.2.2.2.2.2.2.2.1,v11.2.2.2.2.2.2.2.2.2.2.2.2.1),v11.2.2.2.2.2.2.2.2.2.2.2.2.2.2.1,v11.2.2.2.2.2.2.2.2.2.2.2.2.2.1,v11.2.2.2.2.2.2.2.2.2.2.2.2.2.2.2.1,v11.2.2.2.2.2.2.2.2.2.2.2.2.2.2.2.2.1,v11.2.2.2.2.2.2.2.2.2.2.2.2.2.2.2.2.2.1,v11.2.2.2.2.2.2.2.2.2.2.2.2.2.2.2.2.2.2.1,v11.2.2.2.2.2.2.2.2.2.2.2.2.2.2.2.2.2.2.2.1,()),())
 else
  chk (decide (((v11.2.2.2.2.2.2.2.2.2.2.2.2.2.2.2.2.2.1.length)+1)*32≤140737488355328)&&decide ((v11.2.2.2.2.2.2.2.2.2.2.2.2.2.2.2.2.2.1.length)+1≤maxLen)) <|
  bif v11.2.1 then
   Option.bind (fM ((v11.2.2.2.2.1,v11.2.2.2.2.2.1,v11.2.2.2.2.2.2.1,v11.2.2.2.2.2.2.2.1,v11.2.2.2.2.2.2.2.2.1,v11.2.2.2.2.2.2.2.2.2.1,v11.2.2.2.2.2.2.2.2.2.2.1,v11.2.2.2.2.2.2.2.2.2.2.2.1,v11.2.2.2.2.2.2.2.2.2.2.2.2.1),v11.2.2.2.2.2.2.2.2.2.2.2.2.2.2.1,v11.2.2.2.2.2.2.2.2.2.2.2.2.2.1,v11.2.2.2.2.2.2.2.2.2.2.2.2.2.2.2.1,v11.2.2.2.2.2.2.2.2.2.2.2.2.2.2.2.2.1,v11.2.2.2.2.2.2.2.2.2.2.2.2.2.2.2.2.2.1++[(v11.2.2.1,v11.2.2.2.1)],v11.2.2.2.2.2.2.2.2.2.2.2.2.2.2.2.2.2.2.1,v11.2.2.2.2.2.2.2.2.2.2.2.2.2.2.2.2.2.2.2.1,()) v11.1 (v11.2.2.1,v11.2.2.2.1)) fun r13=>
   chk (decide (0≤v11.1)&&decide (v11.1<(r13.1.2.2.2.2.2.2.1.length:Int))) <|
   Option.bind (r13.1.2.2.2.2.2.2.1[v11.1.toNat]?) fun _=>
   Option.bind (bO r13.1.2.2.2.1 ()) fun r15=>
   bif r15.1 then
    some (1,(r13.1.1,r13.1.2.1,r13.1.2.2.1,r13.1.2.2.2.1,r13.1.2.2.2.2.1,r13.1.2.2.2.2.2.1,List.set r13.1.2.2.2.2.2.2.1 v11.1.toNat true,r13.1.2.2.2.2.2.2.2.1,()),())
   else
    some (0,(r13.1.1,r13.1.2.1,r13.1.2.2.1,r13.1.2.2.2.1,r13.1.2.2.2.2.1,r13.1.2.2.2.2.2.1,List.set r13.1.2.2.2.2.2.2.1 v11.1.toNat true,r13.1.2.2.2.2.2.2.2.1,()),())
  else
   Option.bind (gQ ((v11.2.2.2.2.1,v11.2.2.2.2.2.1,v11.2.2.2.2.2.2.1,v11.2.2.2.2.2.2.2.1,v11.2.2.2.2.2.2.2.2.1,v11.2.2.2.2.2.2.2.2.2.1,v11.2.2.2.2.2.2.2.2.2.2.1,v11.2.2.2.2.2.2.2.2.2.2.2.1,v11.2.2.2.2.2.2.2.2.2.2.2.2.1),v11.2.2.2.2.2.2.2.2.2.2.2.2.2.2.1,v11.2.2.2.2.2.2.2.2.2.2.2.2.2.1,v11.2.2.2.2.2.2.2.2.2.2.2.2.2.2.2.1,v11.2.2.2.2.2.2.2.2.2.2.2.2.2.2.2.2.1,v11.2.2.2.2.2.2.2.2.2.2.2.2.2.2.2.2.2.1++[(v11.2.2.1,v11.2.2.2.1)],v11.2.2.2.2.2.2.2.2.2.2.2.2.2.2.2.2.2.2.1,v11.2.2.2.2.2.2.2.2.2.2.2.2.2.2.2.2.2.2.2.1,()) (v11.2.2.1,v11.2.2.2.1)) fun r16=>
   bif r16.1 != 0 then
    some (r16.1,(r16.2.1.1,r16.2.1.2.1,r16.2.1.2.2.1,r16.2.1.2.2.2.1,r16.2.1.2.2.2.2.1,r16.2.1.2.2.2.2.2.1,r16.2.1.2.2.2.2.2.2.1,r16.2.1.2.2.2.2.2.2.2.1,()),())
   else
    Option.bind (bO r16.2.1.2.2.2.1 ()) fun r17=>
    bif r17.1 then
     some (1,(r16.2.1.1,r16.2.1.2.1,r16.2.1.2.2.1,r16.2.1.2.2.2.1,r16.2.1.2.2.2.2.1,r16.2.1.2.2.2.2.2.1,r16.2.1.2.2.2.2.2.2.1,r16.2.1.2.2.2.2.2.2.2.1,()),())
    else
     some (0,(r16.2.1.1,r16.2.1.2.1,r16.2.1.2.2.1,r16.2.1.2.2.2.1,r16.2.1.2.2.2.2.1,r16.2.1.2.2.2.2.2.1,r16.2.1.2.2.2.2.2.2.1,r16.2.1.2.2.2.2.2.2.2.1,()),())
theorem Lt (z:Int) (h:z.natAbs<4294967296 ^ 99):xN (W z)=some (W (z.natAbs:Int),()):=by
 unfold xN
 have hl:=Uy h
 rw [jQ _ (W z).2 (ef _) (by omega)]
 simp only [Option.bind_some,V4,Yd]
 congr 3
 simp only [W,dZ]
theorem L9 (zs:List Nat) (hl:zs.length≤1000):jb (wI zs) ()=some (zs.any fun z=>decide (1000000000<z),()):=by
 unfold jb sE
 have loop:∀ f,zs.length<f→((zs.any fun z=>decide (1000000000<z))=false∧iter f ((wI zs,(),(zs.length:Int),(0:Int),()):iY) iX=some (Sum.inr ()))∨
  ((zs.any fun z=>decide (1000000000<z))=true∧∃ j:Nat,iter f ((wI zs,(),(zs.length:Int),(0:Int),()):iY) iX=some (Sum.inl ((j:Int),()))):=by
  intro f hf
  refine bS (Inv:=fun i X=>X=(wI zs,(),(zs.length:Int),(i:Int),())∧((zs.take i).any fun z=>decide (1000000000<z))=false) zs.length (fun r=>((zs.any fun z=>decide (1000000000<z))=false∧r=some (Sum.inr ()))∨((zs.any fun z=>decide (1000000000<z))=true∧∃ j:Nat,r=some (Sum.inl ((j:Int),())))) ?_ ?_ f 0 _ ⟨rfl,rfl⟩ (by omega) (by omega)
  ·rintro i _ again hi ⟨rfl,hal⟩ ih
   unfold iX
   dsimp only
   have hz:zs[i]? =some zs[i]:=aR hi
   generalize zs[i]=z at hz
   rw [aM (by omega),bM,Mf hz,Option.bind_some]
   unfold tU
   rw [Option.bind_some]
   dsimp only
   by_cases h:(z:Int)>1000000000
   ·rw [aM h]
    refine .inr ⟨?_,i,rfl⟩
    rw [Ws]
    exact ⟨z,List.mem_of_getElem? hz,by rw [decide_eq_true_eq];omega⟩
   ·rw [aN h,aJ (by omega) (by omega)]
    refine ih _ ⟨rfl, ?_⟩
    rw [Xs,hz,List.any_append,hal]
    simp;omega
  ·rintro _ again ⟨rfl,hal⟩
   unfold iX
   dsimp only
   rw [Xv (XE _)] at hal
   rw [aN (by omega)]
   exact .inl ⟨hal,rfl⟩
 rw [vB]
 rcases loop (zs.length+(Int.natAbs ((zs.length:Int))+(Int.natAbs (0:Int)+2))) (by omega) with ⟨h,e⟩ | ⟨h,j,e⟩
 ·rw [e,aL,Option.bind_some,h];rfl
 ·rw [e,mR,Option.bind_some,h]
  dsimp only
  rw [X9 (show (j:Int)≥0 by omega)]
theorem iL.snoc {n:Nat} {b:Br} (h:iL n b) {k:Nat} {d:Int} (hk:k<n) (hd:(d.natAbs:Int)≤MU):iL n (b++[(k,d)]):=by
 refine ⟨fun p hp=> ?_,fun p hp=> ?_⟩
 ·rcases W8.1 hp with hp | hp
  ·exact h.ix p hp
  ·rw [Xj.1 hp];exact hk
 ·rcases W8.1 hp with hp | hp
  ·exact h.am p hp
  ·rw [Xj.1 hp];exact hd
theorem LK (v:ai) (nets lines:List Int) {n:Nat} (hn:n≤20) {sh:Br} (hsh:iL n sh) (hl:sh.length≤1999) (am:List Int) (has:List Bool) (tx:List Int) {k:Nat} (hk:k<n) {d:Int} (hd:(d.natAbs:Int)≤MU):
 fM (Bx v nets lines (aW n sh) sh am has tx) (k:Int) (W d)=some (Bx v nets lines (aW n (sh++[(k,d)])) (sh++[(k,d)]) am has tx,()):=by
 unfold fM Bx
 dsimp only
 have hbm:((aW n sh).map W)[k]? =some (W (atB sh k)):=by rw [List.getElem?_map,mB _ hk];rfl
 have hck:(decide (0≤(k:Int))&&decide ((k:Int)<(((aW n sh).map W).length:Int)))=true:=by
  rw [WY,gO];simp only [VZ,decide_eq_true_eq];omega
 rw [aT hck,Wo,hbm,Option.bind_some,dD _ _ ((P9 hsh (by omega) k).w (by omega)) ((C6 hd).w (by omega)),Option.bind_some,aT hck,Option.bind_some,aT (lY (by simp;omega) (by simp;omega))]
 dsimp only
 rw [← List.map_set,Lc,W4]
 rfl
theorem QY {v:ai} {lines:List Int} (hl:lines.length≤20) (hal:bq lines=true) (a:aa) (N L B:List aa) (S:List aC) (A:List aa) (H:List Bool) (T:List aa) (f:Nat) (hf:lines.length<f):
 iter f (([],false,lines.map W,(lines.length:Int),(0:Int),a.1,a.2,v.1,v.2.1,v.2.2.1,v.2.2.2.1,v.2.2.2.2.1,v.2.2.2.2.2.1,v.2.2.2.2.2.2.1,v.2.2.2.2.2.2.2.1,v.2.2.2.2.2.2.2.2,N,L,B,S,A,H,T,()):kQ) nZ=
  some (Sum.inr (wI (lines.map Int.natAbs), !(lines.all fun b=>b==0),a.1,a.2,v.1,v.2.1,v.2.2.1,v.2.2.2.1,v.2.2.2.2.1,v.2.2.2.2.2.1,v.2.2.2.2.2.2.1,v.2.2.2.2.2.2.2.1,v.2.2.2.2.2.2.2.2,N,L,B,S,A,H,T,())):=by
 refine bS (Inv:=fun i X=>X=((wI ((lines.take i).map Int.natAbs), !((lines.take i).all fun b=>b==0),lines.map W,(lines.length:Int),(i:Int),a.1,a.2,v.1,v.2.1,v.2.2.1,v.2.2.2.1,v.2.2.2.2.1,v.2.2.2.2.2.1,v.2.2.2.2.2.2.1,v.2.2.2.2.2.2.2.1,v.2.2.2.2.2.2.2.2,N,L,B,S,A,H,T,()):kQ)) lines.length
  (fun r=>r=some (Sum.inr (wI (lines.map Int.natAbs), !(lines.all fun b=>b==0),a.1,a.2,v.1,v.2.1,v.2.2.1,v.2.2.2.1,v.2.2.2.2.1,v.2.2.2.2.2.1,v.2.2.2.2.2.2.1,v.2.2.2.2.2.2.2.1,v.2.2.2.2.2.2.2.2,N,L,B,S,A,H,T,()))) ?_ ?_ f 0 _ rfl (by omega) (by omega)
 ·rintro i _ again hi rfl ih
  unfold nZ
  dsimp only
  have hz:lines[i]? =some lines[i]:=aR hi
  have hzm:l9 lines[i]=true:=Wq.1 hal _ (WU hi)
  generalize lines[i]=z at hz hzm
  have hzb:(z.natAbs:Int)≤MU:=by unfold l9 at hzm;exact Yi hzm
  have hMU:=C7
  have hw:=C6 hzb
  rw [aM (by omega),bM,List.getElem?_map,hz,X3,Option.bind_some,Lt _ (hw.w (by omega)),Option.bind_some]
  dsimp only
  rw [sC _ _ (by omega) (by omega),Option.bind_some,if_pos (by omega)]
  dsimp only
  rw [aT (lY (by rw [vB];simp;omega) (by rw [vB];simp;omega)),aJ (by omega) (by omega)]
  have e1:wI ((lines.take i).map Int.natAbs)++[(z.natAbs:Int)]=wI ((lines.take (i+1)).map Int.natAbs):=by
   rw [Xs,hz,W4]
   unfold wI
   rw [W4]
   rfl
  have e2:((lines.take (i+1)).all fun b=>b==0)=(((lines.take i).all fun b=>b==0)&&(z==0)):=by
   rw [Xs,hz,List.all_append];simp
  have:=ih _ rfl
  rw [← e1,e2] at this
  cases hx:((lines.take i).all fun b=>b==0) with
  | false=>rw [hx] at this;exact this
  | true=>
   rw [hx,Wd] at this
   rw [Bool.not_true,cond_false]
   have e3:decide ((z.natAbs:Int)>0)= !(z==0):=by
    by_cases h:z=0
    ·subst h;rfl
    ·rw [X9 (by omega),show (z==0)=false by simpa using h];rfl
   rw [e3];exact this
 ·rintro _ again rfl
  unfold nZ
  dsimp only
  rw [aN (by omega),Xv (XE _)]
theorem R8 {v:ai} {nets lines am tx:List Int} {n:Nat} (hn:n≤20) {sh:Br} (hsh:iL n sh) (hl:sh.length≤1900) (fl:List Nat) {xs:List Int} {pl:Int} (hxl:xs.length=n) (hxs:∀ x∈xs,(x.natAbs:Int)≤MU) (f:Nat) (hf:xs.length<f):
 iter f ((xs.map (fun x=>(x,pl)),(xs.length:Int),(0:Int),v.1,v.2.1,v.2.2.1,v.2.2.2.1,v.2.2.2.2.1,v.2.2.2.2.2.1,v.2.2.2.2.2.2.1,v.2.2.2.2.2.2.2.1,v.2.2.2.2.2.2.2.2,nets.map W,lines.map W,(aW n sh).map W,sh.map shW,am.map W,cQ n fl,tx.map W,()):iu) ku=
  some (Sum.inr (v.1,v.2.1,v.2.2.1,v.2.2.2.1,v.2.2.2.2.1,v.2.2.2.2.2.1,v.2.2.2.2.2.2.1,v.2.2.2.2.2.2.2.1,v.2.2.2.2.2.2.2.2,nets.map W,lines.map W,(aW n (sh++gZ 0 xs)).map W,(sh++gZ 0 xs).map shW,am.map W,cQ n (fl++(gZ 0 xs).map (·.1)),tx.map W,())):=by
 have nz_snoc:∀ (l:List Int) (k:Nat) (x:Int),gZ k (l++[x])=gZ k l++(if x=0 then [] else [(k+l.length,x)]):=by
  intro l
  induction l with
  | nil=>intro k x;simp [gZ]
  | cons y l ih=>
   intro k x
   simp only [Wv,gZ,ih (k+1) x,WW]
   rw [show k+1+l.length=k+(l.length+1) by omega]
   split<;>simp
 have nz_len:∀ (l:List Int) (k:Nat),(gZ k l).length≤l.length:=by
  intro l
  induction l with
  | nil=>intro k;simp [gZ]
  | cons y l ih=>
   intro k
   have:=ih (k+1)
   simp only [gZ]
   split<;>simp<;>omega
 refine bS (Inv:=fun i X=>iL n (sh++gZ 0 (xs.take i))∧X=((xs.map (fun x=>(x,pl)),(xs.length:Int),(i:Int),v.1,v.2.1,v.2.2.1,v.2.2.2.1,v.2.2.2.2.1,v.2.2.2.2.2.1,v.2.2.2.2.2.2.1,v.2.2.2.2.2.2.2.1,v.2.2.2.2.2.2.2.2,nets.map W,lines.map W,(aW n (sh++gZ 0 (xs.take i))).map W,(sh++gZ 0 (xs.take i)).map shW,am.map W,cQ n (fl++(gZ 0 (xs.take i)).map (·.1)),tx.map W,()):iu)) xs.length
  (fun r=>r=some (Sum.inr (v.1,v.2.1,v.2.2.1,v.2.2.2.1,v.2.2.2.2.1,v.2.2.2.2.2.1,v.2.2.2.2.2.2.1,v.2.2.2.2.2.2.2.1,v.2.2.2.2.2.2.2.2,nets.map W,lines.map W,(aW n (sh++gZ 0 xs)).map W,(sh++gZ 0 xs).map shW,am.map W,cQ n (fl++(gZ 0 xs).map (·.1)),tx.map W,()))) ?_ ?_ f 0 _ ⟨by simpa [gZ] using hsh,by simp [gZ]⟩ (by omega) (by omega)
 ·rintro i _ again hi ⟨hok,rfl⟩ ih
  unfold ku
  dsimp only
  have hx:xs[i]? =some xs[i]:=aR hi
  have hxm:=hxs _ (WU hi)
  generalize xs[i]=x at hx hxm
  have hMU:=C7
  have hbl:=nz_len (xs.take i) 0
  rw [W3] at hbl
  have hsl:(sh++gZ 0 (xs.take i)).length≤1999:=by rw [WV];omega
  have hnext:=nz_snoc (xs.take i) 0 x
  have htk:xs.take (i+1)=xs.take i++[x]:=by rw [Xs,hx];rfl
  have hlt:(xs.take i).length=i:=by rw [W3];omega
  rw [← htk,hlt,XV] at hnext
  rw [aM (by omega),bM,List.getElem?_map,hx,X3,Option.bind_some]
  dsimp only
  have hin:i<n:=by omega
  by_cases h0:x=0
  ·rw [if_pos h0,Wu] at hnext
   rw [show (x != 0)=false by simpa using h0,cond_false,aJ (by omega) (by omega)]
   refine ih _ ⟨by rw [hnext];exact hok,by rw [hnext];rfl⟩
  ·rw [if_neg h0] at hnext
   have hb:=LK v nets lines hn hok hsl am (cQ n (fl++(gZ 0 (xs.take i)).map (·.1))) tx hin hxm
   unfold Bx at hb
   rw [show (x != 0)=true by simpa using h0,cond_true,fN _ (by omega) (by omega),Option.bind_some]
   dsimp only
   rw [show (v.1,v.2.1,v.2.2.1,v.2.2.2.1,v.2.2.2.2.1,v.2.2.2.2.2.1,v.2.2.2.2.2.2.1,v.2.2.2.2.2.2.2.1,v.2.2.2.2.2.2.2.2)=v from rfl,hb,Option.bind_some]
   dsimp only
   rw [aT (by rw [qm];simp only [VZ,decide_eq_true_eq];omega),Wo,AR _ hin,Option.bind_some,aJ (by omega) (by omega),Du]
   refine ih _ ⟨by rw [hnext, ← Wt];exact hok.snoc hin hxm, ?_⟩
   rw [hnext]
   simp only [Wt,W4,W6,W7]
   rfl
 ·rintro _ again ⟨_,rfl⟩
  unfold ku
  dsimp only
  rw [aN (by omega),Xv (XE _)]
end Go.Md
namespace Go.Md
open Go.Dn
theorem FH:∀ {l:List Int},(l.all fun b=>b==0)=false→0<(l.map Int.natAbs).sum
 | [],h=>by simp at h
 | x::l,h=>by
  by_cases hx:x=0
  ·subst hx
   have:=FH (l:=l) (by simpa using h)
   simp only [W6,Xr];omega
  ·simp only [W6,Xr];omega
theorem RD {v:ai} (hv:lC v) (k:Nat):bA (yy v k):=by
 unfold yy
 rw [List.getD_eq_getElem?_getD]
 cases h:(aq v)[k]? with
 | none=>exact ⟨by simp,by simp,by simp⟩
 | some r=>
  have:=hv.rates r (List.mem_of_getElem? h)
  unfold inR at this
  rw [decide_eq_true_eq] at this
  exact this.1
end Go.Md
namespace Go.Md
open Go.Dn
theorem Qw {n k:Nat} {fl:List Nat} (h:fl.contains k=true):cQ n (fl++[k])=cQ n fl:=by
 unfold cQ
 apply W5
 intro i _
 by_cases e:i=k
 ·subst e;rw [h];simp
 ·simp [e]
theorem TR {n k:Nat} {fl:List Nat} (hk:k<n) (h:fl.contains k=false):(cQ n fl).set k false=cQ n fl:=by
 apply WD
 intro i
 by_cases e:k=i
 ·subst e
  rw [WR (by rw [qm];exact hk),AR _ hk,h]
 ·rw [WQ e]
theorem RB (lines:List Int):((lines.map Int.natAbs).any fun z=>decide (1000000000<z))=lines.any fun b=>decide (MW<b.natAbs):=by
 rw [List.any_map];rfl
theorem oT {d:Int}:l9 d=true↔(d.natAbs:Int)≤MU:=by unfold l9;rw [decide_eq_true_eq]
theorem SZ {v:ai} (hv:lC v) (nets am tx:List Int) {n:Nat} (hn0:0<n) (hn:n≤20) {lines:List Int} (hll:lines.length=n) (hal:bq lines=true) {sh:Br} (hsh:iL n sh) (hl:sh.length≤1900) (fl:List Nat) {d:Int} (hd:(d.natAbs:Int)≤MU):
 (∃ p g,xE none d lines= .inr (d,p,g)∧iL n (sh++p)∧p.length≤20∧gQ (Bx v nets lines (aW n sh) sh am (cQ n fl) tx) (W d)=some (0,Bx v nets lines (aW n (sh++p)) (sh++p) am (cQ n (fl++g)) tx,()))∨
 (xE none d lines= .inl 2∧∃ b,gQ (Bx v nets lines (aW n sh) sh am (cQ n fl) tx) (W d)=some (2,b,())):=by
 have hpl:=hv.pl
 have hMU:=C7
 have hb:gQ (Bx v nets lines (aW n sh) sh am (cQ n fl) tx) (W d)=RE (wI (lines.map Int.natAbs), !(lines.all fun b=>b==0),(W d).1,(W d).2,v.1,v.2.1,v.2.2.1,v.2.2.2.1,v.2.2.2.2.1,v.2.2.2.2.2.1,v.2.2.2.2.2.2.1,v.2.2.2.2.2.2.2.1,v.2.2.2.2.2.2.2.2,lines.map W,nets.map W,(aW n sh).map W,sh.map shW,am.map W,cQ n fl,tx.map W,()):=by
  unfold gQ Bx
  dsimp only
  rw [WY,QY (v:=v) (by omega) hal (W d) (lines.map W) (nets.map W) ((aW n sh).map W) (sh.map shW) (am.map W) (cQ n fl) (tx.map W) _ ?_,aL]
  ·rfl
  ·simp;omega
 rw [hb]
 have him:l9 d=true:=oT.2 hd
 unfold RE xE
 rw [him,cond_true]
 dsimp only
 cases hz:(lines.all fun b=>b==0) with
 | true=>
  rw [Bool.not_true,Wa,cond_true,cond_true]
  refine .inl ⟨[(0,d)],bif d==0 then [] else [0],rfl,hsh.snoc hn0 hd,by simp, ?_⟩
  have hbr:fM (Bx v nets lines (aW n sh) sh am (cQ n fl) tx) 0 (W d)=some (Bx v nets lines (aW n (sh++[(0,d)])) (sh++[(0,d)]) am (cQ n fl) tx,()):=LK v nets lines hn hsh (by omega) am (cQ n fl) tx (k:=0) hn0 hd
  unfold Bx at hbr ⊢
  rw [show (v.1,v.2.1,v.2.2.1,v.2.2.2.1,v.2.2.2.2.1,v.2.2.2.2.2.1,v.2.2.2.2.2.2.1,v.2.2.2.2.2.2.2.1,v.2.2.2.2.2.2.2.2)=v from rfl,show ((W d).1,(W d).2)=W d from rfl,hbr,Option.bind_some]
  dsimp only
  have hg0:(cQ n fl)[0]? =some (fl.contains 0):=AR _ hn0
  rw [aT (by rw [qm];simp only [VZ,decide_eq_true_eq];omega),hg0,Option.bind_some]
  cases hc:fl.contains 0 with
  | true=>
   rw [cond_true,aT (by rw [qm];simp only [VZ,decide_eq_true_eq];omega),Option.bind_some,Du,Qw hc]
   cases hd0:d==0 with
   | true=>rw [cond_true,Wu]
   | false=>rw [cond_false,Qw hc]
  | false=>
   rw [cond_false,qE,Option.bind_some,aT (by rw [qm];simp only [VZ,decide_eq_true_eq];omega),Option.bind_some]
   dsimp only
   by_cases hd0:d=0
   ·subst hd0
    rw [show ((Int.sign 0) != 0)=false from rfl,TR hn0 hc,show ((0:Int)==0)=true from rfl,cond_true,Wu]
   ·have hs:(d.sign != 0)=true:=by
     have:=mt Wn.1 hd0
     simpa using this
    rw [hs,Du,show (d==0)=false by simpa using hd0,cond_false]
 | false=>
  rw [Wa,Bool.not_true,cond_false,cond_false,L9 _ (by simp;omega),Option.bind_some,RB]
  dsimp only
  cases hw:(lines.any fun b=>decide (MW<b.natAbs)) with
  | true=>rw [cond_true,cond_true];exact .inr ⟨rfl,_,rfl⟩
  | false=>
   rw [cond_false,cond_false,show ((W d).1,(W d).2)=W d from rfl,Gi,Option.bind_some,if_pos (by omega)]
   dsimp only
   have hws:Bb (lines.map Int.natAbs):=by
    refine ⟨by simp;omega,fun w hwm=> ?_,FH hz⟩
    have:=hw
    rw [← RB,Wr] at this
    have h1:=this w hwm
    simpa using h1
   rw [LD d v.2.2.2.1 (by omega) (by omega) _ hws,Option.bind_some]
   dsimp only
   rw [show ((0:Int) != 0)=false from rfl,cond_false]
   have hxl:(gE d (lines.map Int.natAbs)).length=n:=by rw [K4,WY,hll]
   have hxs:∀ x∈gE d (lines.map Int.natAbs),(x.natAbs:Int)≤MU:=fun x hx=>by
    have:=M1 (n:=d) hws.pos hx
    omega
   have hmem:=Lo (gE d (lines.map Int.natAbs)) 0
   have hlenz:(gZ 0 (gE d (lines.map Int.natAbs))).length≤20:=by
    have nz_len:∀ (l:List Int) (k:Nat),(gZ k l).length≤l.length:=by
     intro l
     induction l with
     | nil=>intro k;simp [gZ]
     | cons y l ih=>
      intro k
      have:=ih (k+1)
      simp only [gZ]
      split<;>simp<;>omega
    have:=nz_len (gE d (lines.map Int.natAbs)) 0
    omega
   refine .inl ⟨_,_,rfl,⟨fun p hp=> ?_,fun p hp=> ?_⟩,hlenz, ?_⟩
   ·rcases W8.1 hp with hp | hp
    ·exact hsh.ix p hp
    ·have:=(hmem p hp).2.1;omega
   ·rcases W8.1 hp with hp | hp
    ·exact hsh.am p hp
    ·exact hxs _ (hmem p hp).2.2.1
   ·rw [WY,R8 (v:=v) (nets:=nets) (lines:=lines) (am:=am) (tx:=tx) hn hsh hl fl (pl:=v.2.2.2.1) hxl hxs _ ?_,aL]
    ·rfl
    ·simp;omega
theorem Qi {v:ai} (hv:lC v) (nets:List Int) (am tx:List Int) {n:Nat} (hn0:0<n) (hn:n≤20) {lines:List Int} (hll:lines.length=n) (hal:bq lines=true) {sh:Br} (hsh:iL n sh) (hl:sh.length≤1900) (hal2:am.length≤1000) (fl:List Nat)
 (o:Option Nat) (k:Nat) (ho:∀ k',o=some k'→k=k'∧k'<n) (d:Int):
 (∃ p g,xE o d lines= .inr (d,p,g)∧iL n (sh++p)∧p.length≤20∧B2 ((k:Int),o.isSome,(W d).1,(W d).2,v.1,v.2.1,v.2.2.1,v.2.2.2.1,v.2.2.2.2.1,v.2.2.2.2.2.1,v.2.2.2.2.2.2.1,v.2.2.2.2.2.2.2.1,v.2.2.2.2.2.2.2.2,lines.map W,nets.map W,(aW n sh).map W,sh.map shW,am.map W,cQ n fl,tx.map W,())=
   some (bif bq (aW n (sh++p)) then 0 else 1,Bx v nets lines (aW n (sh++p)) (sh++p) (am++[d]) (cQ n (fl++g)) tx,()))∨
 (∃ f b,f≠0∧xE o d lines= .inl f∧B2 ((k:Int),o.isSome,(W d).1,(W d).2,v.1,v.2.1,v.2.2.1,v.2.2.2.1,v.2.2.2.2.1,v.2.2.2.2.2.1,v.2.2.2.2.2.2.1,v.2.2.2.2.2.2.2.1,v.2.2.2.2.2.2.2.2,lines.map W,nets.map W,(aW n sh).map W,sh.map shW,am.map W,cQ n fl,tx.map W,())=some (f,b,())):=by
 unfold B2
 dsimp only
 rw [show ((W d).1,(W d).2)=W d from rfl,BQ,Option.bind_some]
 dsimp only
 cases him:l9 d with
 | false=>
  refine .inr ⟨1,_,by omega, ?_,rfl⟩
  unfold xE;rw [him];rfl
 | true=>
  have hd:=oT.1 him
  rw [Bool.not_true,cond_false,aT (lY (by simp;omega) (by simp;omega))]
  rw [show (v.1,v.2.1,v.2.2.1,v.2.2.2.1,v.2.2.2.2.1,v.2.2.2.2.2.1,v.2.2.2.2.2.2.1,v.2.2.2.2.2.2.2.1,v.2.2.2.2.2.2.2.2)=v from rfl,show am.map W++[W d]=(am++[d]).map W by simp]
  cases o with
  | some k'=>
   obtain ⟨rfl,hk⟩:=ho k' rfl
   have hb:=LK v nets lines hn hsh (by omega) (am++[d]) (cQ n fl) tx hk hd
   unfold Bx at hb
   rw [X1,cond_true,hb,Option.bind_some]
   dsimp only
   rw [aT (by rw [qm];simp only [VZ,decide_eq_true_eq];omega),Wo,AR _ hk,Option.bind_some,Ib _ (by rw [gO];omega),Option.bind_some,Du]
   dsimp only
   refine .inl ⟨[(k,d)],[k],by unfold xE;rw [him];rfl,hsh.snoc hk hd,by simp, ?_⟩
   unfold Bx
   cases bq (aW n (sh++[(k,d)]))<;>rfl
  | none=>
   rw [Option.isSome_none,cond_false]
   rcases SZ hv nets (am++[d]) tx hn0 hn hll hal hsh hl fl hd with ⟨p,g,h1,h2,h3,h4⟩ | ⟨h1,b,h4⟩
   ·unfold Bx at h4
    rw [h4,Option.bind_some]
    dsimp only
    rw [show ((0:Int) != 0)=false from rfl,cond_false,Ib _ (by rw [gO];omega),Option.bind_some]
    dsimp only
    refine .inl ⟨p,g,h1,h2,h3, ?_⟩
    unfold Bx
    cases bq (aW n (sh++p))<;>rfl
   ·unfold Bx at h4
    rw [h4,Option.bind_some]
    exact .inr ⟨2,_,by omega,h1,rfl⟩
end Go.Md
namespace Go.Md
open Go.Dn
theorem QA {v:ai} (hv:lC v) {x:ay} (hx:O9 (vPl v) x) (nb:Bool) (k:Int) {g:Int} (hg:Le 40 g) (L N B:List aa) (S:List aC) (A:List aa) (H:List Bool) (T:List aa):
 Oo (k,nb,x.1,x.2.1.1,x.2.1.2,x.2.2,(W g).1,(W g).2,v.1,v.2.1,v.2.2.1,v.2.2.2.1,v.2.2.2.2.1,v.2.2.2.2.2.1,v.2.2.2.2.2.2.1,v.2.2.2.2.2.2.2.1,v.2.2.2.2.2.2.2.2,L,N,B,S,A,H,T,())=
  B2 (k,nb,(W (j3 (sB v) (vPl v) g x)).1,(W (j3 (sB v) (vPl v) g x)).2,v.1,v.2.1,v.2.2.1,v.2.2.2.1,v.2.2.2.2.1,v.2.2.2.2.2.1,v.2.2.2.2.2.2.1,v.2.2.2.2.2.2.2.1,v.2.2.2.2.2.2.2.2,L,N,B,S,A,H,T,()):=by
 have hpl:=hv.pl
 have hd1:=hx.dec.1;have hd2:=hx.dec.2
 unfold Oo
 dsimp only
 have hmx:(if x.2.1.2>v.2.2.2.1 then x.2.1.2 else v.2.2.2.1)=max v.2.2.2.1 x.2.1.2:=by omega
 rw [hmx,show (x.2.1.1,x.2.1.2)=x.2.1 from rfl,x4 _ _ (by omega) (by omega) (by omega) (by omega) (by omega),Option.bind_some]
 dsimp only
 cases hp:x.1 with
 | true=>
  rw [cond_true,show (v.1,v.2.1,v.2.2.1,v.2.2.2.1,v.2.2.2.2.1,v.2.2.2.2.2.1,v.2.2.2.2.2.2.1,v.2.2.2.2.2.2.2.1,v.2.2.2.2.2.2.2.2)=v from rfl,show ((W g).1,(W g).2)=W g from rfl,Ab v g _ hx.dec (hg.mono (by omega)),Option.bind_some,aL]
  unfold j3
  rw [hp,if_pos rfl]
  rfl
 | false=>
  have hpp:x.2.1.2≤v.2.2.2.1:=hx.place hp
  rw [cond_false,aL,show max v.2.2.2.1 x.2.1.2=v.2.2.2.1 by omega]
  unfold j3
  rw [hp,if_neg (by simp)]
  rfl
theorem GF {l:List Int} {i:Nat} {x:Int} (h:l[i]? =some x):(l.take (i+1)).sum=(l.take i).sum+x:=by
 rw [Xs,h,Xq];simp
theorem yH {l:List Int} (hl:l.length≤1000) (h:bq l=true):Le 19 l.sum:=by
 have key:∀ l:List Int,bq l=true→l.sum.natAbs≤l.length*1000000000000000:=by
  intro l
  induction l with
  | nil=>intro _;simp
  | cons x l ih=>
   intro h
   unfold bq at h ih
   simp only [Wp,VZ] at h
   have h1:=ih h.2
   have h2:=oT.1 h.1
   have:=C7
   simp only [Xr,WW,Xy,XR]
   omega
 have h1:=key l h
 have h2:l.length*1000000000000000≤1000*1000000000000000:=XP _ hl
 exact Le.int (by omega) (by omega)
theorem My {l:List Int} (h:bq l=true) (i:Nat):bq (l.take i)=true:=by
 unfold bq at*
 rw [Wq] at*
 exact fun x hx=>h x (Xg hx)
theorem Ta {v:ai} (x:ay) (k:Int) {lines:List Int} (hl:lines.length≤1000) (hal:bq lines=true) (L N B:List aa) (S:List aC) (A:List aa) (H:List Bool) (T:List aa) (f:Nat) (hf:lines.length<f):
 iter f ((k,false,lines.map W,(lines.length:Int),(0:Int),x.1,x.2.1.1,x.2.1.2,x.2.2,(W 0).1,(W 0).2,v.1,v.2.1,v.2.2.1,v.2.2.2.1,v.2.2.2.2.1,v.2.2.2.2.2.1,v.2.2.2.2.2.2.1,v.2.2.2.2.2.2.2.1,v.2.2.2.2.2.2.2.2,L,N,B,S,A,H,T,()):lM) oW=
  some (Sum.inr (k,false,x.1,x.2.1.1,x.2.1.2,x.2.2,(W lines.sum).1,(W lines.sum).2,v.1,v.2.1,v.2.2.1,v.2.2.2.1,v.2.2.2.2.1,v.2.2.2.2.2.1,v.2.2.2.2.2.2.1,v.2.2.2.2.2.2.2.1,v.2.2.2.2.2.2.2.2,L,N,B,S,A,H,T,())):=by
 refine bS (Inv:=fun i X=>X=((k,false,lines.map W,(lines.length:Int),(i:Int),x.1,x.2.1.1,x.2.1.2,x.2.2,(W (lines.take i).sum).1,(W (lines.take i).sum).2,v.1,v.2.1,v.2.2.1,v.2.2.2.1,v.2.2.2.2.1,v.2.2.2.2.2.1,v.2.2.2.2.2.2.1,v.2.2.2.2.2.2.2.1,v.2.2.2.2.2.2.2.2,L,N,B,S,A,H,T,()):lM)) lines.length
  (fun r=>r=some (Sum.inr (k,false,x.1,x.2.1.1,x.2.1.2,x.2.2,(W lines.sum).1,(W lines.sum).2,v.1,v.2.1,v.2.2.1,v.2.2.2.1,v.2.2.2.2.1,v.2.2.2.2.2.1,v.2.2.2.2.2.2.1,v.2.2.2.2.2.2.2.1,v.2.2.2.2.2.2.2.2,L,N,B,S,A,H,T,()))) ?_ ?_ f 0 _ rfl (by omega) (by omega)
 ·rintro i _ again hi rfl ih
  unfold oW
  dsimp only
  have hz:lines[i]? =some lines[i]:=aR hi
  have hzm:l9 lines[i]=true:=Wq.1 hal _ (WU hi)
  generalize lines[i]=z at hz hzm
  have h1:=yH (l:=lines.take i) (by rw [W3];omega) (My hal i)
  have h2:=C6 (oT.1 hzm)
  rw [aM (by omega),bM,List.getElem?_map,hz,X3,Option.bind_some,show ((W (lines.take i).sum).1,(W (lines.take i).sum).2)=W (lines.take i).sum from rfl,dD _ _ (h1.w (by omega)) (h2.w (by omega)),Option.bind_some,aJ (by omega) (by omega), ← GF hz]
  exact ih _ rfl
 ·rintro _ again rfl
  unfold oW
  dsimp only
  rw [aN (by omega),Xv (XE _)]
theorem T6 {v:ai} (hv:lC v) (nets am tx:List Int) {lines:List Int} (hll:lines.length=(aq v).length) (hal:bq lines=true) {sh:Br} (hsh:iL (aq v).length sh) (hl:sh.length≤1900) (hal2:am.length≤1000) (fl:List Nat) {x:ay} (hx:O9 (vPl v) x):
 (∃ d p g,zW v lines x= .inr (d,p,g)∧iL (aq v).length (sh++p)∧p.length≤20∧mm (Bx v nets lines (aW (aq v).length sh) sh am (cQ (aq v).length fl) tx) x=
   some (bif bq (aW (aq v).length (sh++p)) then 0 else 1,Bx v nets lines (aW (aq v).length (sh++p)) (sh++p) (am++[d]) (cQ (aq v).length (fl++g)) tx,()))∨
 (∃ f b,f≠0∧zW v lines x= .inl f∧mm (Bx v nets lines (aW (aq v).length sh) sh am (cQ (aq v).length fl) tx) x=some (f,b,())):=by
 have hrn:0<(aq v).length∧(aq v).length≤20:=hv.rn
 obtain ⟨k,hk1,hk2⟩:=AW (aq v) x.2.2 (by omega) hv.asc
 have hg:Le 40 (zz v lines x):=by
  unfold zz
  cases ho:jd (·.1) x.2.2 (aq v) with
  | some k'=>
   dsimp only
   rw [List.getD_eq_getElem?_getD]
   cases hz:lines[k']? with
   | none=>exact (show Le 40 0 by unfold Le;simp)
   | some z=>exact (C6 (oT.1 (Wq.1 hal _ (List.mem_of_getElem? hz)))).mono (by omega)
  | none=>exact (yH (by omega) hal).mono (by omega)
 have hred:mm (Bx v nets lines (aW (aq v).length sh) sh am (cQ (aq v).length fl) tx) x=B2 ((k:Int),(jd (·.1) x.2.2 (aq v)).isSome,(W (j3 (sB v) (vPl v) (zz v lines x) x)).1,(W (j3 (sB v) (vPl v) (zz v lines x) x)).2,v.1,v.2.1,v.2.2.1,v.2.2.2.1,v.2.2.2.2.1,v.2.2.2.2.2.1,v.2.2.2.2.2.2.1,v.2.2.2.2.2.2.2.1,v.2.2.2.2.2.2.2.2,lines.map W,nets.map W,(aW (aq v).length sh).map W,sh.map shW,am.map W,cQ (aq v).length fl,tx.map W,()):=by
  rw [← QA hv hx]
  ·unfold mm Bx
   dsimp only
   rw [fN 0 (by omega) (by omega),Option.bind_some]
   have hk1':qk v.2.2.2.2.2.2.1 x.2.2=some ((k:Int),(jd (·.1) x.2.2 (aq v)).isSome,()):=hk1
   rw [hk1',Option.bind_some]
   dsimp only
   cases ho:jd (·.1) x.2.2 (aq v) with
   | some k'=>
    obtain rfl:=hk2 k' ho
    obtain ⟨rt,hrt,_⟩:=qd ho
    have hkl:k<lines.length:=by rw [hll];exact (List.getElem?_eq_some_iff.1 hrt).1
    have hz:lines[k]? =some lines[k]:=aR hkl
    rw [X1,cond_true,bM,List.getElem?_map,hz,X3,Option.bind_some,aL]
    have hbase:zz v lines x=lines[k]:=by
     unfold zz;rw [ho];dsimp only;rw [List.getD_eq_getElem?_getD,hz];rfl
    rw [hbase]
    rfl
   | none=>
    have hbase:zz v lines x=lines.sum:=by
     unfold zz;rw [ho]
    rw [hbase]
    rw [Option.isSome_none,cond_false,WY,Ta (v:=v) x (k:Int) (by omega) hal (lines.map W) (nets.map W) ((aW (aq v).length sh).map W) (sh.map shW) (am.map W) (cQ (aq v).length fl) (tx.map W) _ ?_,aL,aL]
    ·rfl
    ·simp;omega
  ·exact hg
 rw [hred]
 unfold zW
 rcases Qi hv nets am tx hrn.1 hrn.2 hll hal hsh hl hal2 fl (jd (·.1) x.2.2 (aq v)) k (fun k' h=>⟨hk2 k' h,by obtain ⟨rt,hrt,_⟩:=qd h;exact (List.getElem?_eq_some_iff.1 hrt).1⟩) (j3 (sB v) (vPl v) (zz v lines x) x) with ⟨p,g,h1,h2,h3,h4⟩ | ⟨f,b,h1,h2,h3⟩
 ·exact .inl ⟨_,p,g,h1,h2,h3,h4⟩
 ·exact .inr ⟨f,b,h1,h2,h3⟩
end Go.Md
namespace Go.Md
open Go.Dn
theorem Vo {α:Type} {b:Bool} (h:b=true) (x y:α):(bif b then x else y)=x:=by rw [h];rfl
theorem Vc {α:Type} {b:Bool} (h:b=false) (x y:α):(bif b then x else y)=y:=by rw [h];rfl
theorem U7 {α:Type} {b:Bool} (h:b=true) (x y:α):(bif !b then x else y)=y:=by rw [h];rfl
theorem UN {α:Type} {b:Bool} (h:b=false) (x y:α):(bif !b then x else y)=x:=by rw [h];rfl
def K35:Nat:=10 ^ 35
theorem Le.k35 {z:Int} (h:Le 35 z):z.natAbs≤K35:=h
theorem Va {z:Int} {c:Nat} (hc:c≤1000) (h:z.natAbs≤c*K35):Le 38 z:=by
 unfold Le
 have h1:c*K35≤1000*K35:=XP _ hc
 have h2:1000*K35=10 ^ 38:=by unfold K35;decide
 omega
theorem FN (way:Int) (pc:ak) (k:Nat):∀ (a b:Br),zl way pc k (a++b)=zl way pc k a+zl way pc k b
 | [],b=>by simp [zl]
 | p::a,b=>by simp only [Wv,zl,FN way pc k a b];omega
theorem Rp {way:Int} {pc:ak} (hp:bA pc) (k:Nat):∀ {b:Br},(∀ p∈b,(p.2.natAbs:Int)≤MU)→(zl way pc k b).natAbs≤b.length*K35
 | [],_=>by simp [zl]
 | p::b,h=>by
  have h1:=Rp (way:=way) hp k (b:=b) fun q hq=>h q (Xa _ hq)
  have h2:(vT way p.2 pc).natAbs≤K35:=(Nf (C6 (h p Xb)) hp:Le 35 _).k35
  simp only [zl,WW,Xy,XR]
  split<;>omega
theorem PX {v:ai} {k:Nat} {r:aD} (h:(aq v)[k]? =some r):yy v k=r.2:=by
 unfold yy;rw [List.getD_eq_getElem?_getD,h];rfl
theorem Tt {v:ai} (hv:lC v) {br:Br} (hbr:iL (aq v).length br) (hl:br.length≤1000) (L N:List aa) (S:List aC) (A:List aa) (H:List Bool) (f:Nat) (hf:(aq v).length<f):
 iter f ((aq v,((aq v).length:Int),(0:Int),v.1,v.2.1,v.2.2.1,v.2.2.2.1,v.2.2.2.2.1,v.2.2.2.2.2.1,v.2.2.2.2.2.2.1,v.2.2.2.2.2.2.2.1,v.2.2.2.2.2.2.2.2,L,List.replicate (Int.toNat ((aq v).length:Int)) ((false,[]):aa),N,(aW (aq v).length br).map W,S,A,H,()):nP) qO=
  some (Sum.inr (v.1,v.2.1,v.2.2.1,v.2.2.2.1,v.2.2.2.2.1,v.2.2.2.2.2.1,v.2.2.2.2.2.2.1,v.2.2.2.2.2.2.2.1,v.2.2.2.2.2.2.2.2,L,((List.range (aq v).length).map fun k=>if Cs v=true then 0 else vT (sB v) (atB br k) (yy v k)).map W,N,(aW (aq v).length br).map W,S,A,H,())):=by
 have hrn:0<(aq v).length∧(aq v).length≤20:=hv.rn
 refine bS (Inv:=fun i X=>X=((aq v,((aq v).length:Int),(i:Int),v.1,v.2.1,v.2.2.1,v.2.2.2.1,v.2.2.2.2.1,v.2.2.2.2.2.1,v.2.2.2.2.2.2.1,v.2.2.2.2.2.2.2.1,v.2.2.2.2.2.2.2.2,L,((List.range (aq v).length).map fun k=>if Cs v=true∨i≤k then 0 else vT (sB v) (atB br k) (yy v k)).map W,N,(aW (aq v).length br).map W,S,A,H,()):nP)) (aq v).length
  (fun r=>r=some (Sum.inr (v.1,v.2.1,v.2.2.1,v.2.2.2.1,v.2.2.2.2.1,v.2.2.2.2.2.1,v.2.2.2.2.2.2.1,v.2.2.2.2.2.2.2.1,v.2.2.2.2.2.2.2.2,L,((List.range (aq v).length).map fun k=>if Cs v=true then 0 else vT (sB v) (atB br k) (yy v k)).map W,N,(aW (aq v).length br).map W,S,A,H,()))) ?_ ?_ f 0 _ ?_ (by omega) (by omega)
 ·rintro i _ again hi rfl ih
  unfold qO
  dsimp only
  have hr:(aq v)[i]? =some (aq v)[i]:=aR hi
  have hrm:=WU hi
  generalize (aq v)[i]=r at hr hrm
  have hpc:=PX hr
  have hpo:=RD hv i
  rw [aM (by omega),bM,hr,Option.bind_some]
  rcases Bool.eq_false_or_eq_true v.2.2.2.2.2.1 with hper | hper
  ·rw [U7 hper,aJ (by omega) (by omega)]
   refine ih _ ?_
   have hp:Cs v=true:=hper
   simp only [hp,true_or,Ye]
   rfl
  ·have hp:Cs v=false:=hper
   have hbm:((aW (aq v).length br).map W)[i]? =some (W (atB br i)):=by rw [List.getElem?_map,mB _ hi];rfl
   have htm:∃ y,(((List.range (aq v).length).map fun k=>if Cs v=true∨i≤k then 0 else vT (sB v) (atB br k) (yy v k)).map W)[i]? =some y:=⟨_,aR (by simp;omega)⟩
   obtain ⟨y0,hy0⟩:=htm
   rw [UN hper,aT (by rw [WY,gO];simp only [VZ,decide_eq_true_eq];omega),Wo,hbm,Option.bind_some]
   rw [show (v.1,v.2.1,v.2.2.1,v.2.2.2.1,v.2.2.2.2.1,v.2.2.2.2.2.1,v.2.2.2.2.2.2.1,v.2.2.2.2.2.2.2.1,v.2.2.2.2.2.2.2.2)=v from rfl, ← hpc,Ab v _ _ hpo ((P9 hbr (by omega) i).mono (by omega)),Option.bind_some]
   dsimp only
   rw [aT (by simp only [WY,W1,VZ,decide_eq_true_eq];omega),hy0,Option.bind_some,aJ (by omega) (by omega), ← List.map_set]
   refine ih _ ?_
   congr 13
   refine congrArg (fun z:List Int=>(z.map W,_)) ?_
   refine Cp _ _ _ _ _ (fun j hj hji=> ?_) ?_
   ·simp only [hp,V4,Yc]
    by_cases h1:i≤j
    ·rw [if_pos h1,if_pos (by omega)]
    ·rw [if_neg h1,if_neg (by omega)]
   ·simp only [hp,V4,Yc]
    rw [if_neg (by omega)]
 ·rintro _ again rfl
  unfold qO
  dsimp only
  rw [aN (by omega)]
  congr 12
  refine congrArg (fun z:List Int=>(z.map W,_)) ?_
  apply W5
  intro k hk
  rw [Xi] at hk
  by_cases hp:Cs v=true
  ·rw [if_pos (.inl hp),if_pos hp]
  ·rw [if_neg (fun h=>h.elim hp (fun h=>by omega)),if_neg hp]
 ·simp only [XW,or_true,Ye]
  congr 13
  rw [Wo]
  refine congrArg (fun z:List aa=>(z,_)) ?_
  apply WD
  intro i
  by_cases hi:i<(aq v).length
  ·rw [List.getElem?_map,List.getElem?_map,WM hi,WN,if_pos hi];rfl
  ·rw [WL (by simp;omega),WL (by simp;omega)]
def DT (v:ai) (br:Br) (i k:Nat):Int:=if Cs v=true then zl (sB v) (yy v k) k (br.take i) else vT (sB v) (atB br k) (yy v k)
theorem Tx {v:ai} (hv:lC v) {br:Br} (hbr:iL (aq v).length br) (hl:br.length≤1000) (L N B:List aa) (A:List aa) (H:List Bool) (f:Nat) (hf:br.length<f):
 iter f (((br.length:Int),(0:Int),v.1,v.2.1,v.2.2.1,v.2.2.2.1,v.2.2.2.2.1,v.2.2.2.2.2.1,v.2.2.2.2.2.2.1,v.2.2.2.2.2.2.2.1,v.2.2.2.2.2.2.2.2,L,((List.range (aq v).length).map (DT v br 0)).map W,N,B,br.map shW,A,H,()):nK) qJ=
  some (Sum.inr (v.1,v.2.1,v.2.2.1,v.2.2.2.1,v.2.2.2.2.1,v.2.2.2.2.2.1,v.2.2.2.2.2.2.1,v.2.2.2.2.2.2.2.1,v.2.2.2.2.2.2.2.2,L,(pT v br).map W,N,B,br.map shW,A,H,())):=by
 refine bS (Inv:=fun i X=>X=(((br.length:Int),(i:Int),v.1,v.2.1,v.2.2.1,v.2.2.2.1,v.2.2.2.2.1,v.2.2.2.2.2.1,v.2.2.2.2.2.2.1,v.2.2.2.2.2.2.2.1,v.2.2.2.2.2.2.2.2,L,((List.range (aq v).length).map (DT v br i)).map W,N,B,br.map shW,A,H,()):nK)) br.length
  (fun r=>r=some (Sum.inr (v.1,v.2.1,v.2.2.1,v.2.2.2.1,v.2.2.2.2.1,v.2.2.2.2.2.1,v.2.2.2.2.2.2.1,v.2.2.2.2.2.2.2.1,v.2.2.2.2.2.2.2.2,L,(pT v br).map W,N,B,br.map shW,A,H,()))) ?_ ?_ f 0 _ rfl (by omega) (by omega)
 ·rintro i _ again hi rfl ih
  unfold qJ
  dsimp only
  have hp:br[i]? =some br[i]:=aR hi
  have hpm:=WU hi
  generalize br[i]=p at hp hpm
  have hpx:=hbr.ix p hpm
  have hpa:=hbr.am p hpm
  have hsm:(br.map shW)[i]? =some (shW p):=by rw [List.getElem?_map,hp];rfl
  rw [aM (by omega),aT (by rw [WY];simp only [VZ,decide_eq_true_eq];omega),Wo,hsm,Option.bind_some]
  have e1:(shW p).1=(p.1:Int):=rfl
  have e2:(shW p).2=W p.2:=rfl
  rw [e1,e2]
  rcases Bool.eq_false_or_eq_true v.2.2.2.2.2.1 with hper | hper
  ·have hpr:Cs v=true:=hper
   have hr:(aq v)[p.1]? =some (aq v)[p.1]:=aR hpx
   generalize (aq v)[p.1]=r at hr
   have hpc:=PX hr
   have hpo:=RD hv p.1
   have htl:=Rp (way:=sB v) hpo p.1 (b:=br.take i) fun q hq=>hbr.am q (Xg hq)
   have htl2:=Va (show (br.take i).length≤1000 by rw [W3];omega) htl
   have hpt:Le 38 (vT (sB v) p.2 (yy v p.1)):=(Nf (C6 hpa) hpo:Le 35 _).mono (by omega)
   have hget:(((List.range (aq v).length).map (DT v br i)).map W)[p.1]? =some (W (zl (sB v) (yy v p.1) p.1 (br.take i))):=by
    rw [List.getElem?_map,List.getElem?_map,WM hpx]
    unfold DT
    simp only [X3,hpr,Ye]
   have hck:(decide (0≤(p.1:Int))&&decide ((p.1:Int)<((((List.range (aq v).length).map (DT v br i)).map W).length:Int)))=true:=by
    simp only [WY,W1,VZ,decide_eq_true_eq];omega
   rw [Vo hper,aT hck,Wo,hget,Option.bind_some,bM,show v.2.2.2.2.2.2.1=aq v from rfl,hr,Option.bind_some]
   rw [show (v.1,v.2.1,v.2.2.1,v.2.2.2.1,v.2.2.2.2.1,v.2.2.2.2.2.1,aq v,v.2.2.2.2.2.2.2.1,v.2.2.2.2.2.2.2.2)=v from rfl, ← hpc,Ab v _ _ hpo ((C6 hpa).mono (by omega)),Option.bind_some]
   dsimp only
   rw [dD _ _ (htl2.w (by omega)) (hpt.w (by omega)),Option.bind_some,aT hck,Option.bind_some,aJ (by omega) (by omega), ← List.map_set]
   refine ih _ ?_
   congr 12
   refine congrArg (fun z:List Int=>(z.map W,_)) ?_
   have htk:br.take (i+1)=br.take i++[p]:=by rw [Xs,hp];rfl
   refine Cp _ _ _ _ _ (fun j hj hji=> ?_) ?_
   ·unfold DT
    simp only [hpr,Ye,htk,FN,zl]
    rw [if_neg (fun e=>hji e.symm)];omega
   ·unfold DT
    simp only [hpr,Ye,htk,FN,zl]
    omega
  ·have hpr:Cs v=false:=hper
   rw [Vc hper,aJ (by omega) (by omega)]
   refine ih _ ?_
   congr 12
   refine congrArg (fun z:List Int=>(z.map W,_)) ?_
   apply W5
   intro k _
   unfold DT
   simp [hpr]
 ·rintro _ again rfl
  unfold qJ
  dsimp only
  rw [aN (by omega)]
  congr 12
  refine congrArg (fun z:List Int=>(z.map W,_)) ?_
  apply W5
  intro k _
  unfold DT LX
  rw [Xv (XE _)]
theorem Vs {v:ai} (hv:lC v) (nets lines am:List Int) {br:Br} (hbr:iL (aq v).length br) (hl:br.length≤1000) (has:List Bool):
 vX (Bx v nets lines (aW (aq v).length br) br am has [])=some (bif bq (pT v br) then 0 else 1,Bx v nets lines (aW (aq v).length br) br am has (pT v br),()):=by
 have hrn:0<(aq v).length∧(aq v).length≤20:=hv.rn
 unfold vX Bx
 dsimp only
 rw [WY,gO,aT (by simp only [VZ,decide_eq_true_eq];omega),Tt hv hbr hl (lines.map W) (nets.map W) (br.map shW) (am.map W) has _ ?_,aL]
 ·dsimp only
  have e0:((List.range (aq v).length).map fun k=>if Cs v=true then 0 else vT (sB v) (atB br k) (yy v k))=(List.range (aq v).length).map (DT v br 0):=by
   apply W5
   intro k _
   unfold DT
   split<;>rfl
  rw [e0,WY,Tx hv hbr hl (lines.map W) (nets.map W) ((aW (aq v).length br).map W) (am.map W) has _ ?_,aL]
  ·dsimp only
   rw [OV _ (by unfold pT;simp;omega),Option.bind_some]
   dsimp only
   cases bq (pT v br)<;>rfl
  ·simp;omega
 ·simp;omega
end Go.Md
namespace Go.Md
open Go.Dn
theorem A4 (v:ai) (lines:List Int):∀ (a b:List ay) (s:ESt),iw v lines (a++b) s=match iw v lines a s with | .inl f=> .inl f | .inr t=>iw v lines b t
 | [],b,s=>rfl
 | x::a,b,s=>by
  simp only [Wv,iw]
  cases zW v lines x with
  | inl f=>rfl
  | inr t=>
   dsimp only
   cases bq (aW (aq v).length (s.1++t.2.1)) with
   | true=>simp only [cond_true];exact A4 v lines a b _
   | false=>rfl
theorem PA {v:ai} {lines:List Int} {l:List ay} {i:Nat} {x:ay} (hx:l[i]? =some x) {s t:ESt} (h:iw v lines (l.take i) s= .inr t):
 iw v lines (l.take (i+1)) s=match zW v lines x with | .inl f=> .inl f | .inr r=>bif bq (aW (aq v).length (t.1++r.2.1)) then .inr (t.1++r.2.1,t.2.1++r.2.2,t.2.2++[r.1]) else .inl 1:=by
 rw [Xs,hx,A4,h]
 simp only [Option.toList,iw]
 cases zW v lines x<;>rfl
theorem IT {v:ai} {lines:List Int} {l:List ay} {i:Nat} {s:ESt} {f:Int} (h:iw v lines (l.take i) s= .inl f):iw v lines l s= .inl f:=by
 have:=A4 v lines (l.take i) (l.drop i) s
 rw [Xt,h] at this
 exact this
def fZ (v:ai) (lines:List Int) (s:ShZ):bw:=(v,s.nets.map W,lines.map W,(aW (aq v).length s.br).map W,s.br.map shW,s.am.map W,cQ (aq v).length s.fl,s.taxes.map W)
theorem Q4 {v:ai} (hv:lC v) (nets lines:List Int) (hll:lines.length=(aq v).length) (hal:bq lines=true) {lb:Br} (hlb:iL (aq v).length lb) (hlbl:lb.length≤500) (fl0:List Nat) (ar:List bw) (f:Nat) (hf:(gN v).length<f):
 (∃ s:ESt,iw v lines (gN v) (lb,fl0,[])= .inr s∧iL (aq v).length s.1∧s.1.length≤900∧
   iter f ((gN v,((gN v).length:Int),(0:Int),v.1,v.2.1,v.2.2.1,v.2.2.2.1,v.2.2.2.2.1,v.2.2.2.2.2.1,v.2.2.2.2.2.2.1,v.2.2.2.2.2.2.2.1,v.2.2.2.2.2.2.2.2,nets.map W,lines.map W,(aW (aq v).length lb).map W,lb.map shW,([]:List aa),cQ (aq v).length fl0,([]:List aa),ar,()):kY) nU=
    some (Sum.inr (v.1,v.2.1,v.2.2.1,v.2.2.2.1,v.2.2.2.2.1,v.2.2.2.2.2.1,v.2.2.2.2.2.2.1,v.2.2.2.2.2.2.2.1,v.2.2.2.2.2.2.2.2,nets.map W,lines.map W,(aW (aq v).length s.1).map W,s.1.map shW,s.2.2.map W,cQ (aq v).length s.2.1,([]:List aa),ar,())))∨
 (∃ fa,fa≠0∧iw v lines (gN v) (lb,fl0,[])= .inl fa∧
   iter f ((gN v,((gN v).length:Int),(0:Int),v.1,v.2.1,v.2.2.1,v.2.2.2.1,v.2.2.2.2.1,v.2.2.2.2.2.1,v.2.2.2.2.2.2.1,v.2.2.2.2.2.2.2.1,v.2.2.2.2.2.2.2.2,nets.map W,lines.map W,(aW (aq v).length lb).map W,lb.map shW,([]:List aa),cQ (aq v).length fl0,([]:List aa),ar,()):kY) nU=some (Sum.inl (none,fa,ar,()))):=by
 have hxl:(gN v).length≤20:=(C4 hv.ext).1
 have hxe:=(C4 hv.ext).2
 refine bS (Inv:=fun i X=>∃ s:ESt,iw v lines ((gN v).take i) (lb,fl0,[])= .inr s∧iL (aq v).length s.1∧s.1.length≤500+20*i∧s.2.2.length=i∧X=((gN v,((gN v).length:Int),(i:Int),v.1,v.2.1,v.2.2.1,v.2.2.2.1,v.2.2.2.2.1,v.2.2.2.2.2.1,v.2.2.2.2.2.2.1,v.2.2.2.2.2.2.2.1,v.2.2.2.2.2.2.2.2,nets.map W,lines.map W,(aW (aq v).length s.1).map W,s.1.map shW,s.2.2.map W,cQ (aq v).length s.2.1,([]:List aa),ar,()):kY)) (gN v).length
  (fun r=>(∃ s:ESt,iw v lines (gN v) (lb,fl0,[])= .inr s∧iL (aq v).length s.1∧s.1.length≤900∧r=some (Sum.inr (v.1,v.2.1,v.2.2.1,v.2.2.2.1,v.2.2.2.2.1,v.2.2.2.2.2.1,v.2.2.2.2.2.2.1,v.2.2.2.2.2.2.2.1,v.2.2.2.2.2.2.2.2,nets.map W,lines.map W,(aW (aq v).length s.1).map W,s.1.map shW,s.2.2.map W,cQ (aq v).length s.2.1,([]:List aa),ar,())))∨
    (∃ fa,fa≠0∧iw v lines (gN v) (lb,fl0,[])= .inl fa∧r=some (Sum.inl (none,fa,ar,())))) ?_ ?_ f 0 _ ⟨(lb,fl0,[]),rfl,hlb,by simpa using hlbl,rfl,rfl⟩ (by omega) (by omega)
 ·rintro i _ again hi ⟨s,h1,h2,h3,h4,rfl⟩ ih
  unfold nU
  dsimp only
  have hx:(gN v)[i]? =some (gN v)[i]:=aR hi
  have hxm:=WU hi
  generalize (gN v)[i]=x at hx hxm
  have hxo:=(hxe x hxm).1
  have hst:=PA hx h1
  rw [aM (by omega),bM,hx,Option.bind_some]
  have he:=T6 hv nets s.2.2 [] hll hal h2 (by omega) (by omega) s.2.1 hxo
  unfold Bx at he
  rw [show (v.1,v.2.1,v.2.2.1,v.2.2.2.1,v.2.2.2.2.1,v.2.2.2.2.2.1,v.2.2.2.2.2.2.1,v.2.2.2.2.2.2.2.1,v.2.2.2.2.2.2.2.2)=v from rfl]
  rcases he with ⟨d,p,g,g1,g2,g3,g4⟩ | ⟨fa,b,g0,g1,g4⟩
  ·rw [g1] at hst
   dsimp only at hst
   rw [show ([]:List aa)=([]:List Int).map W from rfl,g4,Option.bind_some]
   dsimp only
   cases ha:bq (aW (aq v).length (s.1++p)) with
   | true=>
    rw [ha,cond_true] at hst
    rw [cond_true,show ((0:Int) != 0)=false from rfl,cond_false,aJ (by omega) (by omega)]
    exact ih _ ⟨_,hst,g2,by rw [WV];omega,by rw [WV];simp [h4],rfl⟩
   | false=>
    rw [ha,cond_false] at hst
    rw [cond_false,show ((1:Int) != 0)=true from rfl,cond_true]
    exact .inr ⟨1,by omega,IT hst,rfl⟩
  ·rw [g1] at hst
   rw [show ([]:List aa)=([]:List Int).map W from rfl,g4,Option.bind_some]
   dsimp only
   rw [show (fa != 0)=true by simpa using g0,cond_true]
   exact .inr ⟨fa,g0,IT hst,rfl⟩
 ·rintro _ again ⟨s,h1,h2,h3,h4,rfl⟩
  unfold nU
  dsimp only
  rw [aN (by omega)]
  rw [Xv (XE _)] at h1
  exact .inl ⟨s,h1,h2,by omega,rfl⟩
theorem nI {v:ai} (h0:ng v=0):
 (∃ lines s,zV v= .inr s∧iL (aq v).length s.br∧s.br.length≤900∧iR v []=some (some 0,0,[fZ v lines s],()))∨
 (∃ f,f≠0∧zV v= .inl f∧iR v []=some (none,f,[],())):=by
 have hv:=uM h0
 have hrn:0<(aq v).length∧(aq v).length≤20:=hv.rn
 have hln:0<(cI v).length∧(cI v).length≤500:=hv.ln
 unfold iR zV
 rw [zX,Option.bind_some]
 dsimp only
 rw [h0,show ((0:Int) != 0)=false from rfl,cond_false]
 rcases MF hv with ⟨lb,h1,h2,h3,h4,e⟩ | ⟨h1,b,e⟩
 ·rw [e,Option.bind_some,h1]
  unfold Bx
  dsimp only
  rw [show ((0:Int) != 0)=false from rfl,cond_false,h4,cond_true]
  have hll:=gO (aq v).length lb
  have hve:(gN v).length=v.2.2.2.2.2.2.2.2.length:=rfl
  rcases Q4 hv (lb.map (·.2)) (aW (aq v).length lb) hll h4 h2 (by omega) (lb.map (·.1)) [] (v.2.2.2.2.2.2.2.2.length+(Int.natAbs ((v.2.2.2.2.2.2.2.2.length:Int))+(Int.natAbs (0:Int)+(v.1.length+(v.2.1.length+(v.2.2.1.natAbs+(v.2.2.2.1.natAbs+(v.2.2.2.2.1.natAbs+(v.2.2.2.2.2.2.1.length+(v.2.2.2.2.2.2.2.1.length+(v.2.2.2.2.2.2.2.2.length+(List.length ((lb.map (·.2)).map W)+(List.length ((aW (aq v).length lb).map W)+(List.length ((aW (aq v).length lb).map W)+(List.length (lb.map shW)+(List.length ([]:List aa)+(List.length (cQ (aq v).length (lb.map (·.1)))+(List.length ([]:List aa)+(List.length ([]:List bw)+2))))))))))))))))))) (by omega) with ⟨s,g1,g2,g3,g4⟩ | ⟨fa,g0,g1,g4⟩
  ·rw [g1]
   dsimp only
   rw [show ([]:List Int).map W=([]:List aa) from rfl,g4,aL]
   dsimp only
   have ht:=Vs hv (lb.map (·.2)) (aW (aq v).length lb) s.2.2 g2 (by omega) (cQ (aq v).length s.2.1)
   unfold Bx at ht
   rw [show ([]:List Int).map W=([]:List aa) from rfl] at ht
   rw [show (v.1,v.2.1,v.2.2.1,v.2.2.2.1,v.2.2.2.2.1,v.2.2.2.2.2.1,v.2.2.2.2.2.2.1,v.2.2.2.2.2.2.2.1,v.2.2.2.2.2.2.2.2)=v from rfl,ht,Option.bind_some]
   dsimp only
   cases ha:bq (pT v s.1) with
   | true=>
    rw [cond_true,cond_true,show ((0:Int) != 0)=false from rfl,cond_false]
    exact .inl ⟨_,_,rfl,g2,g3,rfl⟩
   | false=>
    rw [cond_false,cond_false,show ((1:Int) != 0)=true from rfl,cond_true]
    exact .inr ⟨1,by omega,rfl,rfl⟩
  ·rw [g1]
   dsimp only
   rw [show ([]:List Int).map W=([]:List aa) from rfl,g4,mR]
   exact .inr ⟨fa,g0,rfl,rfl⟩
 ·rw [e,Option.bind_some]
  dsimp only
  rw [show ((1:Int) != 0)=true from rfl,cond_true]
  refine .inr ⟨1,by omega, ?_,rfl⟩
  rcases h1 with h1 | ⟨lb,h1,h2⟩
  ·rw [h1]
  ·rw [h1]
   dsimp only
   rw [h2];rfl
end Go.Md
namespace Go.Md
open Go.Dn
theorem N1 {v:ai} (hv:lC v):∀ {l:List av} {lb:Br},(∀ x∈l,x∈cI v)→gm v l=some lb→iL (aq v).length lb∧lb.length=l.length∧∀ (i:Nat) (x:av) (p:Nat×Int),l[i]? =some x→lb[i]? =some p→Cz v x=some p.2∧p.1=O7 v x
 | [],lb,_,h=>by simp only [gm,Option.some.injEq] at h;subst h;exact ⟨⟨by simp,by simp⟩,rfl,by simp⟩
 | x::l,lb,hm,h=>by
  simp only [gm] at h
  cases hn:Cz v x with
  | none=>rw [hn] at h;cases h
  | some z=>
   rw [hn] at h
   simp only at h
   cases hl:gm v l with
   | none=>rw [hl] at h;cases h
   | some lb'=>
    rw [hl] at h
    simp only [X3,Option.some.injEq] at h
    subst h
    obtain ⟨h1,h2,h3⟩:=N1 hv (fun y hy=>hm y (Xa _ hy)) hl
    have hxo:=hv.lines x (hm x Xb)
    obtain ⟨k,hk⟩:=X0.1 hxo.rate
    obtain ⟨rt,hrt,_⟩:=qd hk
    have hkl:k<(aq v).length:=(List.getElem?_eq_some_iff.1 hrt).1
    refine ⟨⟨fun p hp=> ?_,fun p hp=> ?_⟩,by simp [h2],fun i y p hi hp=> ?_⟩
    ·rcases W9.1 hp with rfl | hp
     ·show (jd (·.1) x.2.2.2.2.2.2.2.2 (aq v)).getD 0<_
      rw [hk];exact hkl
     ·exact h1.ix p hp
    ·rcases W9.1 hp with rfl | hp
     ·exact (NY hn).2
     ·exact h1.am p hp
    ·cases i with
     | zero=>
      simp only [WJ,Option.some.injEq] at hi hp
      subst hi;subst hp;exact ⟨hn,rfl⟩
     | succ i=>
      simp only [WI] at hi hp
      exact h3 i y p hi hp
theorem Qn:∀ (l:List Int) (k:Nat),(gZ k l).length≤l.length
 | [],k=>by simp [gZ]
 | y::l,k=>by
  have:=Qn l (k+1)
  simp only [gZ]
  split<;>simp<;>omega
theorem Tv {n:Nat} (hn0:0<n) (hn:n≤20) {o:Option Nat} (ho:∀ k,o=some k→k<n) {lines:List Int} (hll:lines.length=n) {d d':Int} {p:Br} {g:List Nat} (h:xE o d lines= .inr (d',p,g)):
 d'=d∧l9 d=true∧iL n p∧p.length≤20∧(p.map (·.2)).sum=d∧∀ q∈p,q.2≠0→q.1∈g:=by
 unfold xE at h
 cases him:l9 d with
 | false=>rw [him] at h;cases h
 | true=>
  rw [him,cond_true] at h
  have hd:=oT.1 him
  cases o with
  | some k=>
   simp only [Sum.inr.injEq,Prod.mk.injEq] at h
   obtain ⟨rfl,rfl,rfl⟩:=h
   exact ⟨rfl,rfl,⟨by simpa using ho k rfl,by simpa using hd⟩,by simp,by simp,by simp⟩
  | none=>
   dsimp only at h
   cases hz:(lines.all fun b=>b==0) with
   | true=>
    rw [hz,cond_true] at h
    simp only [Sum.inr.injEq,Prod.mk.injEq] at h
    obtain ⟨rfl,rfl,rfl⟩:=h
    refine ⟨rfl,rfl,⟨by simpa using hn0,by simpa using hd⟩,by simp,by simp,fun q hq hq0=> ?_⟩
    rw [Xj.1 hq] at hq0 ⊢
    rw [show (d==0)=false by simpa using hq0,cond_false]
    simp
   | false=>
    rw [hz,cond_false] at h
    cases hw:(lines.any fun b=>decide (MW<b.natAbs)) with
    | true=>rw [hw] at h;cases h
    | false=>
     rw [hw,cond_false] at h
     simp only [Sum.inr.injEq,Prod.mk.injEq] at h
     obtain ⟨rfl,rfl,rfl⟩:=h
     have hpos:=FH hz
     have hmem:=Lo (gE d (lines.map Int.natAbs)) 0
     have hxl:(gE d (lines.map Int.natAbs)).length=n:=by rw [K4,WY,hll]
     refine ⟨rfl,rfl,⟨fun q hq=> ?_,fun q hq=> ?_⟩, ?_, ?_,fun q hq _=>List.mem_map_of_mem hq⟩
     ·have:=(hmem q hq).2.1;omega
     ·have:=M1 (n:=d) hpos (hmem q hq).2.2.1;omega
     ·have:=Qn (gE d (lines.map Int.natAbs)) 0;omega
     ·rw [Pf,QW hpos]
theorem iL.append {n:Nat} {a b:Br} (ha:iL n a) (hb:iL n b):iL n (a++b):=
 ⟨fun p hp=>(W8.1 hp).elim (ha.ix p) (hb.ix p),fun p hp=>(W8.1 hp).elim (ha.am p) (hb.am p)⟩
theorem MT {v:ai} (hv:lC v) {lines:List Int} (hll:lines.length=(aq v).length):∀ (l:List ay) (s t:ESt),iw v lines l s= .inr t→iL (aq v).length s.1→bq s.2.2=true→(∀ q∈s.1,q.2≠0→q.1∈s.2.1)→bq (aW (aq v).length s.1)=true→
 iL (aq v).length t.1∧t.1.length≤s.1.length+20*l.length∧bq t.2.2=true∧t.2.2.length=s.2.2.length+l.length∧(t.1.map (·.2)).sum=(s.1.map (·.2)).sum+(t.2.2.sum - s.2.2.sum)∧(∀ q∈t.1,q.2≠0→q.1∈t.2.1)∧bq (aW (aq v).length t.1)=true
 | [],s,t,h,h1,h2,h3,h4=>by
  simp only [iw,Sum.inr.injEq] at h
  subst h
  exact ⟨h1,by simp,h2,by simp,by omega,h3,h4⟩
 | x::l,s,t,h,h1,h2,h3,h4=>by
  have hrn:0<(aq v).length∧(aq v).length≤20:=hv.rn
  simp only [iw] at h
  cases hb:zW v lines x with
  | inl f=>rw [hb] at h;cases h
  | inr r=>
   obtain ⟨d,p,g⟩:=r
   rw [hb] at h
   dsimp only at h
   unfold zW at hb
   have hbo:=Tv hrn.1 hrn.2 (fun k hk=>by obtain ⟨rt,hrt,_⟩:=qd hk;exact (List.getElem?_eq_some_iff.1 hrt).1) hll hb
   obtain ⟨rfl,g1,g2,g3,g4,g5⟩:=hbo
   cases ha:bq (aW (aq v).length (s.1++p)) with
   | false=>rw [ha] at h;cases h
   | true=>
    rw [ha,cond_true] at h
    generalize j3 (sB v) (vPl v) (zz v lines x) x=d at*
    obtain ⟨k1,k2,k3,k4,k5,k6,k7⟩:=MT hv hll l _ t h (h1.append g2) (by unfold bq at *;rw [List.all_append,h2];simpa using g1) (fun q hq hq0=>by
     rcases W8.1 hq with hq | hq
     ·exact W8.2 (.inl (h3 q hq hq0))
     ·exact W8.2 (.inr (g5 q hq hq0))) ha
    dsimp only at k2 k4 k5
    refine ⟨k1, ?_,k3, ?_, ?_,k6,k7⟩
    ·rw [WV] at k2;simp only [WW];omega
    ·rw [WV] at k4;simp only [WW,WZ] at k4 ⊢;omega
    ·rw [k5,W4,Xq,g4,Xq];simp;omega
structure SOk (v:ai) (s:ShZ):Prop where
 nets:bq s.nets=true
 netl:s.nets.length=(cI v).length
 neti:∀ (i:Nat) (x:av) (z:Int),(cI v)[i]? =some x→s.nets[i]? =some z→Cz v x=some z
 br:iL (aq v).length s.br
 brl:s.br.length≤900
 bs:bq (aW (aq v).length s.br)=true
 am:bq s.am=true
 aml:s.am.length≤20
 tx:bq s.taxes=true
 txe:s.taxes=pT v s.br
 sum:(s.br.map (·.2)).sum=s.nets.sum+s.am.sum
 fl:∀ q∈s.br,q.2≠0→q.1∈s.fl
theorem E1 {v:ai} (hv:lC v) {s:ShZ} (h:zV v= .inr s):SOk v s:=by
 have hln:0<(cI v).length∧(cI v).length≤500:=hv.ln
 have hxl:(gN v).length≤20:=(C4 hv.ext).1
 unfold zV at h
 cases hl:gm v (cI v) with
 | none=>rw [hl] at h;cases h
 | some lb=>
  rw [hl] at h
  dsimp only at h
  cases ha:bq (aW (aq v).length lb) with
  | false=>rw [ha] at h;cases h
  | true=>
   rw [ha,cond_true] at h
   cases he:iw v (aW (aq v).length lb) (gN v) (lb,lb.map (·.1),[]) with
   | inl f=>rw [he] at h;cases h
   | inr t=>
    rw [he] at h
    dsimp only at h
    cases ht:bq (pT v t.1) with
    | false=>rw [ht] at h;cases h
    | true=>
     rw [ht,cond_true] at h
     cases h
     obtain ⟨b1,b2,b3⟩:=N1 hv (fun x hx=>hx) hl
     obtain ⟨k1,k2,k3,k4,k5,k6,k7⟩:=MT hv (gO _ _) _ _ t he b1 rfl (fun q hq _=>List.mem_map_of_mem hq) ha
     dsimp only at k2 k4 k5
     refine ⟨?_,by simp [b2],fun i x z hx hz=> ?_,k1,by show t.1.length≤900;omega,k7,k3,by show t.2.2.length≤20;simp only [WZ] at k4;omega,ht,rfl,by rw [k5];simp,k6⟩
     ·show bq (lb.map (·.2))=true
      unfold bq
      rw [Wq]
      intro z hz
      obtain ⟨p,hp,rfl⟩:=Xf.1 hz
      exact oT.2 (b1.am p hp)
     ·simp only [List.getElem?_map] at hz
      cases hp:lb[i]? with
      | none=>rw [hp] at hz;cases hz
      | some p=>
       rw [hp] at hz
       simp only [X3,Option.some.injEq] at hz
       subst hz
       exact (b3 i x p hx hp).1
def bY (v:ai) (s:ShZ):eg:=(Bk v s.nets.sum,Bk v s.am.sum,Bk v (s.nets.sum+s.am.sum),Bk v s.taxes.sum,Bk v (s.nets.sum+s.am.sum+s.taxes.sum))
def Cr (v:ai) (s:ShZ) (k:Nat):aF:=(((aq v).getD k ([],(0,0))).1,Bk v (atB s.br k),Bk v (LX v s.br k))
def qb (v:ai) (s:ShZ):List aF:=((List.range (aq v).length).filter fun k=>s.fl.contains k).map (Cr v s)
theorem FO {l:List Int} (hl:l.length≤1000) (hal:bq l=true):A7 (l.map W)=some (W l.sum,()):=by
 unfold A7
 rw [fN 0 (by omega) (by omega),Option.bind_some]
 dsimp only
 have loop:∀ f,l.length<f→iter f ((l.map W,(l.length:Int),(0:Int),false,([]:List Int),(W 0).1,(W 0).2,()):xd) Bo=some (Sum.inr (false,([]:List Int),(W l.sum).1,(W l.sum).2,())):=by
  intro f hf
  refine bS (Inv:=fun i X=>X=((l.map W,(l.length:Int),(i:Int),false,([]:List Int),(W (l.take i).sum).1,(W (l.take i).sum).2,()):xd)) l.length (fun r=>r=some (Sum.inr (false,([]:List Int),(W l.sum).1,(W l.sum).2,()))) ?_ ?_ f 0 _ rfl (by omega) (by omega)
  ·rintro i _ again hi rfl ih
   unfold Bo
   dsimp only
   have hz:l[i]? =some l[i]:=aR hi
   have hzm:l9 l[i]=true:=Wq.1 hal _ (WU hi)
   generalize l[i]=z at hz hzm
   have h1:=yH (l:=l.take i) (by rw [W3];omega) (My hal i)
   have h2:=C6 (oT.1 hzm)
   rw [aM (by omega),bM,List.getElem?_map,hz,X3,Option.bind_some,show ((W (l.take i).sum).1,(W (l.take i).sum).2)=W (l.take i).sum from rfl,dD _ _ (h1.w (by omega)) (h2.w (by omega)),Option.bind_some,aJ (by omega) (by omega), ← GF hz]
   exact ih _ rfl
  ·rintro _ again rfl
   unfold Bo
   dsimp only
   rw [aN (by omega),Xv (XE _)]
 rw [WY,loop _ (by omega),aL]
theorem oM (v:ai) (lines:List Int) (s:ShZ) {z:Int} (hz:l9 z=true):gu (some 0) (W z) [fZ v lines s]=some (Bk v z,()):=by
 have h:=oT.1 hz
 have:=C7
 unfold gu
 rw [Option.bind_some,show ([fZ v lines s]:List bw)[0]? =some (fZ v lines s) from rfl,Option.bind_some,Gi,if_pos (by omega),Option.bind_some]
 rfl
theorem vM {v:ai} (hv:lC v) (lines:List Int) {s:ShZ} (hs:SOk v s):
 kX (some 0) [fZ v lines s]=some (bif bq (pM s) then (bY v s,0,()) else (((0,0),(0,0),(0,0),(0,0),0,0),1,())):=by
 have hln:0<(cI v).length∧(cI v).length≤500:=hv.ln
 have hrn:0<(aq v).length∧(aq v).length≤20:=hv.rn
 have htl:s.taxes.length≤20:=by rw [hs.txe];unfold pT;simp;omega
 have hnl:=hs.netl;have haml:=hs.aml
 have n1:=yH (by omega) hs.nets
 have n2:=yH (by omega) hs.am
 have n3:=yH (by omega) hs.tx
 have n4:=(n1.add n2)
 have n5:=(n4.add (n3.mono (show 19≤20 by omega)))
 unfold kX
 have hg:([fZ v lines s]:List bw)[0]? =some (fZ v lines s):=rfl
 simp only [Option.bind_some,hg]
 rw [show (fZ v lines s).2.1=s.nets.map W from rfl,FO (by omega) hs.nets,Option.bind_some]
 rw [show (fZ v lines s).2.2.2.2.2.1=s.am.map W from rfl,FO (by omega) hs.am,Option.bind_some]
 rw [show (fZ v lines s).2.2.2.2.2.2.2=s.taxes.map W from rfl,FO (by omega) hs.tx,Option.bind_some]
 dsimp only
 rw [dD _ _ (n1.w (by omega)) (n2.w (by omega)),Option.bind_some]
 dsimp only
 rw [dD _ _ (n4.w (by omega)) (n3.w (by omega)),Option.bind_some]
 dsimp only
 rw [show [W s.nets.sum,W s.am.sum,W (s.nets.sum+s.am.sum),W s.taxes.sum,W (s.nets.sum+s.am.sum+s.taxes.sum)]=(pM s).map W from rfl,Ow _ (by unfold pM;simp),Option.bind_some]
 dsimp only
 cases ha:bq (pM s) with
 | false=>rfl
 | true=>
  have hal:=ha
  unfold bq pM at hal
  simp only [Wp,List.all_nil,V3,VZ] at hal
  obtain ⟨a1,a2,a3,a4,a5⟩:=hal
  rw [Bool.not_true,cond_false,oM v lines s a1,Option.bind_some,oM v lines s a2,Option.bind_some,oM v lines s a3,Option.bind_some,oM v lines s a4,Option.bind_some,oM v lines s a5,Option.bind_some]
  rfl
theorem I3 {v:ai} (hv:lC v) (lines:List Int) {s:ShZ} (hs:SOk v s):pR (some 0) [fZ v lines s]=some (qb v s,()):=by
 have hrn:0<(aq v).length∧(aq v).length≤20:=hv.rn
 have hg:([fZ v lines s]:List bw)[0]? =some (fZ v lines s):=rfl
 unfold pR
 rw [Option.bind_some,hg,Option.bind_some]
 have loop:∀ f,(aq v).length<f→iter f ((some 0,([]:List aF),aq v,((aq v).length:Int),(0:Int),[fZ v lines s],()):nc) pU=some (Sum.inr (qb v s,[fZ v lines s],())):=by
  intro f hf
  refine bS (Inv:=fun i X=>X=((some 0,((List.range i).filter fun k=>s.fl.contains k).map (Cr v s),aq v,((aq v).length:Int),(i:Int),[fZ v lines s],()):nc)) (aq v).length (fun r=>r=some (Sum.inr (qb v s,[fZ v lines s],()))) ?_ ?_ f 0 _ rfl (by omega) (by omega)
  ·rintro i _ again hi rfl ih
   unfold pU
   dsimp only
   have hr:(aq v)[i]? =some (aq v)[i]:=aR hi
   generalize (aq v)[i]=r at hr
   have hrd:(aq v).getD i ([],(0,0))=r:=by rw [List.getD_eq_getElem?_getD,hr];rfl
   have hbz:l9 (atB s.br i)=true:=by
    have:=hs.bs
    unfold bq at this
    exact Wq.1 this _ (List.mem_of_getElem? (mB s.br hi))
   have htz:(s.taxes)[i]? =some (LX v s.br i):=by
    rw [hs.txe];unfold pT;rw [List.getElem?_map,WM hi];rfl
   have htm:l9 (LX v s.br i)=true:=Wq.1 hs.tx _ (List.mem_of_getElem? htz)
   have e1:idx (fZ v lines s).2.2.2.2.2.2.1 (i:Int)=some (s.fl.contains i):=by
    rw [show (fZ v lines s).2.2.2.2.2.2.1=cQ (aq v).length s.fl from rfl,bM,AR _ hi]
   have e2:idx (fZ v lines s).2.2.2.1 (i:Int)=some (W (atB s.br i)):=by
    rw [show (fZ v lines s).2.2.2.1=(aW (aq v).length s.br).map W from rfl,bM,List.getElem?_map,mB _ hi];rfl
   have e3:idx (fZ v lines s).2.2.2.2.2.2.2 (i:Int)=some (W (LX v s.br i)):=by
    rw [show (fZ v lines s).2.2.2.2.2.2.2=s.taxes.map W from rfl,bM,List.getElem?_map,htz];rfl
   have hfl:(((List.range i).filter fun k=>s.fl.contains k).map (Cr v s)).length≤20:=by
    rw [WY]
    have:=WX (fun k=>s.fl.contains k) (List.range i)
    rw [W1] at this
    omega
   have hstep:((List.range (i+1)).filter fun k=>s.fl.contains k).map (Cr v s)=((List.range i).filter fun k=>s.fl.contains k).map (Cr v s)++(if s.fl.contains i=true then [Cr v s i] else []):=by
    rw [List.range_succ,WE,W4]
    cases hc:s.fl.contains i with
    | true=>rw [List.filter_cons_of_pos (by rw [hc]),List.filter_nil,if_pos rfl];rfl
    | false=>rw [List.filter_cons_of_neg (by rw [hc];exact V5),List.filter_nil,if_neg V5];rfl
   rw [aM (by omega),bM,hr]
   simp only [Option.bind_some,hg,e1]
   cases hc:s.fl.contains i with
   | true=>
    rw [hc,if_pos rfl] at hstep
    simp only [cond_true,e2,e3,Option.bind_some,oM v lines s hbz,oM v lines s htm]
    rw [aT (lY (by omega) (by omega)),aJ (by omega) (by omega)]
    refine ih _ ?_
    rw [hstep]
    unfold Cr
    rw [hrd]
    rfl
   | false=>
    rw [hc,if_neg (by simp),Wu] at hstep
    rw [cond_false,aJ (by omega) (by omega)]
    refine ih _ ?_
    rw [hstep]
    rfl
  ·rintro _ again rfl
   unfold pU
   dsimp only
   rw [aN (by omega)]
   rfl
 have e:=loop (List.length ([]:List aF)+(List.length (aq v)+(Int.natAbs ((List.length (aq v):Int))+(Int.natAbs (0:Int)+2)))) (by omega)
 rw [show (fZ v lines s).1.2.2.2.2.2.2.1=aq v from rfl,e,aL]
def UE:eg:=((0,0),(0,0),(0,0),(0,0),0,0)
def M5 (v:ai):List aF×Int×Unit:=if ng v≠0 then ([],ng v,()) else match oq v with | .inl f=>([],f,()) | .inr s=>(qb v s,0,())
def Km (v:ai):eg×Int×Unit:=if ng v≠0 then (UE,ng v,()) else match oq v with | .inl f=>(UE,f,()) | .inr s=>(bY v s,0,())
theorem EB {v:ai} (h:ng v≠0):iR v []=some (none,ng v,[],()):=by
 unfold iR
 rw [zX,Option.bind_some]
 dsimp only
 rw [show (ng v != 0)=true by simpa using h,cond_true]
theorem OZ (v:ai):C5 v=some (M5 v):=by
 unfold C5 M5
 by_cases h0:ng v=0
 ·rw [if_neg (by simpa using h0)]
  have hv:=uM h0
  unfold oq
  rcases nI h0 with ⟨lines,s,h1,h2,h3,e⟩ | ⟨f,hf,h1,e⟩
  ·have hs:=E1 hv h1
   rw [e,Option.bind_some,h1]
   dsimp only
   rw [show ((0:Int) != 0)=false from rfl,cond_false,vM hv lines hs,Option.bind_some]
   cases ha:bq (pM s) with
   | true=>
    simp only [cond_true]
    rw [show ((0:Int) != 0)=false from rfl,cond_false,I3 hv lines hs,Option.bind_some]
   | false=>rfl
  ·rw [e,Option.bind_some,h1]
   dsimp only
   rw [show (f != 0)=true by simpa using hf,cond_true]
 ·rw [if_pos h0,EB h0,Option.bind_some]
  dsimp only
  rw [show (ng v != 0)=true by simpa using h0,cond_true]
theorem NG (v:ai):Bg v=some (Km v):=by
 unfold Bg Km
 by_cases h0:ng v=0
 ·rw [if_neg (by simpa using h0)]
  have hv:=uM h0
  unfold oq
  rcases nI h0 with ⟨lines,s,h1,h2,h3,e⟩ | ⟨f,hf,h1,e⟩
  ·have hs:=E1 hv h1
   rw [e,Option.bind_some,h1]
   dsimp only
   rw [show ((0:Int) != 0)=false from rfl,cond_false,vM hv lines hs,Option.bind_some]
   cases ha:bq (pM s)<;>rfl
  ·rw [e,Option.bind_some,h1]
   dsimp only
   rw [show (f != 0)=true by simpa using hf,cond_true]
   rfl
 ·rw [if_pos h0,EB h0,Option.bind_some]
  dsimp only
  rw [show (ng v != 0)=true by simpa using h0,cond_true]
  rfl
end Go.Md
namespace Go.Md
open Go.Dn
theorem HE {n r:Nat} (h:0<r):n<n+r:=by omega
theorem yE {n a r:Nat} (h:n<r):n<a+r:=by omega
theorem Mo {d:ak} (h:bA d):(qy d).natAbs<4294967296 ^ 99:=by
 unfold qy
 have h1:=h.1
 rw [Int.natAbs_mul]
 have h2:((10:Int) ^ (9 - d.2).toNat).natAbs≤10 ^ 9:=by
  rw [Int.natAbs_pow]
  exact XT (by decide) (by have:=h.2.1;omega)
 have h3:=Nat.mul_le_mul h1 h2
 have h4:(1000000000000000*10 ^ 9:Nat)<4294967296 ^ 99:=by
  have:=XT (n:=4294967296) (by decide) (show 3≤99 by decide)
  omega
 omega
theorem EV {d:ak} (h:bA d):uO d=some (W (qy d),()):=by
 obtain ⟨h1,h2,h3⟩:=h
 unfold uO
 rw [x4 d 9 (by omega) (by omega) (by omega) (by omega) (by omega),Option.bind_some]
 rfl
theorem nG {out:List bN} {k:Int} {n:List UInt8} {a b:ak} (ha:bA a) (hb:bA b) (hl:out.length≤1000):
 ff out k n a b=some (if qy a=qy b then out else out++[(k,n,a,b)],()):=by
 unfold ff
 rw [EV ha,Option.bind_some,EV hb,Option.bind_some,sI _ _ (Mo ha) (Mo hb),Option.bind_some]
 dsimp only
 by_cases h:qy a=qy b
 ·rw [if_pos h,h,Int.sub_self];rfl
 ·rw [if_neg h,show ((qy a - qy b).sign==0)=false by
   rw [X5];intro h0;exact h (by have:=Wn.1 h0;omega),cond_false,aT (lY (by omega) (by omega))]
theorem Eh (l:List ak) (hl:l.length≤1000):dG l=some (mG (fun _ d=>if bA d then 0 else 1) 0 l,()):=by
 unfold dG
 have loop:=Ji (f:=iV) (fun i=>(l,(l.length:Int),(i:Int),())) l (fun _ d=>if bA d then 0 else 1) () (by
  intro i y again hy
  have hi:=(List.getElem?_eq_some_iff.1 hy).1
  unfold iV
  dsimp only
  rw [aM (by omega),bM,hy,Option.bind_some,gD,Option.bind_some]
  dsimp only
  by_cases hd:bA y
  ·rw [if_pos hd,show ((0:Int) != 0)=false from rfl,cond_false,if_pos rfl,aJ (by omega) (by omega)];rfl
  ·rw [if_neg hd,show ((1:Int) != 0)=true from rfl,cond_true,if_neg (by decide)]) (by
  intro again
  unfold iV
  dsimp only
  rw [aN (by omega)]) l 0 (List.length l+(Int.natAbs ((List.length l:Int))+(Int.natAbs (0:Int)+2))) rfl (by omega) (by omega)
 have loop':iter (X:=lz) (β:=lE) (List.length l+(Int.natAbs ((List.length l:Int))+(Int.natAbs (0:Int)+2))) (l,(List.length l:Int),0,()) iV=_:=loop
 rw [loop']
 generalize mG (fun _ d=>if bA d then 0 else 1) 0 l=s
 exact SC s ()
theorem Eb {l:List ak} (hl:l.length≤1000) (h:∀ d∈l,bA d):dG l=some (0,()):=by
 rw [Eh l hl]
 have:∀ (l:List ak) (i:Nat),(∀ d∈l,bA d)→mG (fun _ d=>if bA d then (0:Int) else 1) i l=0:=by
  intro l
  induction l with
  | nil=>intro _ _;rfl
  | cons a l ih=>
   intro i h
   simp only [mG]
   rw [if_pos (h a Xb),if_pos rfl]
   exact ih _ fun d hd=>h d (Xa _ hd)
 rw [this l 0 h]
theorem KV {l:List ak} (hl:l.length≤1000) (h:∃ d∈l,¬bA d):dG l=some (1,()):=by
 rw [Eh l hl]
 have:∀ (l:List ak) (i:Nat),(∃ d∈l,¬bA d)→mG (fun _ d=>if bA d then (0:Int) else 1) i l=1:=by
  intro l
  induction l with
  | nil=>rintro _ ⟨d,hd,_⟩;cases hd
  | cons a l ih=>
   rintro i ⟨d,hd,hn⟩
   simp only [mG]
   by_cases ha:bA a
   ·rw [if_pos ha,if_pos rfl]
    rcases W9.1 hd with rfl | hd
    ·exact absurd ha hn
    ·exact ih _ ⟨d,hd,hn⟩
   ·rw [if_neg ha,if_neg (by decide)]
 rw [this l 0 h]
structure Th (l:List aF):Prop where
 len:l.length≤20
 nm:∀ x∈l,tO x.1=true
 asc:Asc (·.1) l
 dec:∀ x∈l,bA x.2.1∧bA x.2.2
def iU (t:eg):List ak:=[t.1,t.2.1,t.2.2.1,t.2.2.2.1,t.2.2.2.2]
theorem SB {t:eg} (l:List aF) (h:∃ d∈iU t,¬bA d):mc t l=some (1,()):=by
 unfold mc
 rw [show [t.1,t.2.1,t.2.2.1,t.2.2.2.1,t.2.2.2.2]=iU t from rfl,KV (by simp [iU]) h,Option.bind_some]
 rfl
theorem S5 {t:eg} {l:List aF} (h:∀ d∈iU t,bA d) (hl:Th l):mc t l=some (0,()):=by
 have hll:=hl.len
 unfold mc
 rw [show [t.1,t.2.1,t.2.2.1,t.2.2.2.1,t.2.2.2.2]=iU t from rfl,Eb (by simp [iU]) h,Option.bind_some]
 dsimp only
 rw [show ((0:Int) != 0)=false from rfl,cond_false,aN (by omega)]
 have loop:∀ f,l.length<f→iter f ((l,l,(l.length:Int),(0:Int),()):lS) oU=some (Sum.inr ()):=by
  intro f hf
  refine bS (Inv:=fun i X=>X=((l,l,(l.length:Int),(i:Int),()):lS)) l.length (fun r=>r=some (Sum.inr ())) ?_ ?_ f 0 _ rfl (by omega) (by omega)
  ·rintro i _ again hi rfl ih
   have hy:l[i]? =some l[i]:=aR hi
   have hm:l[i]∈l:=WU hi
   generalize l[i]=y at hy hm
   have hd:=hl.dec y hm
   have hck:dG [y.2.1,y.2.2]=some (0,()):=Eb (by simp) (by intro d hd2;rcases W9.1 hd2 with rfl | hd2;exact hd.1;rw [Xj.1 hd2];exact hd.2)
   unfold oU
   dsimp only
   rw [aM (by omega),bM,hy,Option.bind_some,xP,Option.bind_some]
   dsimp only
   rw [hl.nm y hm,Bool.not_true,cond_false,hck,aJ (n:=(i:Int)+1) (by omega) (by omega)]
   cases i with
   | zero=>
    rw [aN (by omega),Option.bind_some]
    exact ih _ rfl
   | succ j=>
    have hp:l[j]? =some l[j]:=aR (by omega)
    have hlt:Op.bytesLess (l[j]).1 y.1=true:=hl.asc j (j+1) _ _ (by omega) hp hy
    rw [aM (by omega),aJ (by omega) (by omega),show ((j+1:Nat):Int) - 1=(j:Int) by omega,bM,hp,Option.bind_some]
    have h1:Op.bytesLess y.1 (l[j]).1=false:=by
     cases hb:Op.bytesLess y.1 (l[j]).1 with
     | false=>rfl
     | true=>exact absurd (Rm hlt) (by rw [hb];simp)
    have h2:(y.1==(l[j]).1)=false:=by
     rw [X5];intro he;rw [he] at hlt;rw [m8] at hlt;cases hlt
    rw [h1,h2,Bool.or_false,cond_false,Option.bind_some]
    exact ih _ rfl
  ·rintro _ again rfl
   unfold oU
   dsimp only
   rw [aN (by omega)]
 rw [loop _ (by with_reducible apply HE;repeat (with_reducible first | exact Nat.zero_lt_two | apply yE)),aL]
abbrev SMap:=List ((List UInt8)×aF)
def gB (m:SMap) (l:List aF):SMap:=l.foldl (fun m x=>tP (k:= .str) (v:=bh) m x.1 x) m
def Sk (m:SMap):Prop:=∀ n x,kG (k:= .str) (v:=bh) m n=some x→bA (show aF from x).2.1∧bA (show aF from x).2.2
theorem B1:∀ {l:List aF} {m:SMap},(∀ x∈l,bA x.2.1∧bA x.2.2)→Sk m→Sk (gB m l)
 | [],_,_,h=>h
 | y::l,m,hl,h=>by
  refine B1 (l:=l) (fun x hx=>hl x (Xa _ hx)) fun n x hx=> ?_
  have e:=TK (k:= .str) (v:=bh) U6 m y.1 y n
  rw [e] at hx
  cases hb:Ty.beq .str y.1 n with
  | true=>rw [hb,cond_true] at hx;cases hx;exact hl y Xb
  | false=>rw [hb,cond_false] at hx;exact h n x hx
theorem tF {l:List aF} {i:Nat} (h:i<l.length) (m:SMap):gB m (l.take (i+1))=tP (k:= .str) (v:=bh) (gB m (l.take i)) (l[i]).1 l[i]:=by
 have snoc:∀ (a:List aF) (x:aF),gB m (a++[x])=tP (k:= .str) (v:=bh) (gB m a) x.1 x:=fun a x=>List.foldl_append
 rw [Xs,aR h]
 exact snoc _ _
theorem Ui (v:ai) (l:List aF) (hl:l.length≤20) (sl:List bN) (A:List bw) (f:Nat) (hf:l.length<f) (r:Option vW) (hr:r=iter f ((some 0,([]:List (List UInt8)),l,(l.length:Int),(0:Int),v.1,v.2.1,v.2.2.1,v.2.2.2.1,v.2.2.2.2.1,v.2.2.2.2.2.1,v.2.2.2.2.2.2.1,v.2.2.2.2.2.2.2.1,v.2.2.2.2.2.2.2.2,sl,([]:SMap),([]:SMap),A,()):qS) rH):
 r=some (Sum.inr (some 0,l.map (·.1),v.1,v.2.1,v.2.2.1,v.2.2.2.1,v.2.2.2.2.1,v.2.2.2.2.2.1,v.2.2.2.2.2.2.1,v.2.2.2.2.2.2.2.1,v.2.2.2.2.2.2.2.2,sl,gB [] l,([]:SMap),A,())):=by
 rw [hr]
 refine bS (Inv:=fun i X=>X=((some 0,(l.take i).map (·.1),l,(l.length:Int),(i:Int),v.1,v.2.1,v.2.2.1,v.2.2.2.1,v.2.2.2.2.1,v.2.2.2.2.2.1,v.2.2.2.2.2.2.1,v.2.2.2.2.2.2.2.1,v.2.2.2.2.2.2.2.2,sl,gB [] (l.take i),([]:SMap),A,()):qS)) l.length (fun r=>r=some (Sum.inr (some 0,l.map (·.1),v.1,v.2.1,v.2.2.1,v.2.2.2.1,v.2.2.2.2.1,v.2.2.2.2.2.1,v.2.2.2.2.2.2.1,v.2.2.2.2.2.2.2.1,v.2.2.2.2.2.2.2.2,sl,gB [] l,([]:SMap),A,()))) ?_ ?_ f 0 _ rfl (by omega) (by omega)
 ·rintro i _ again hi rfl ih
  have e:rH (some 0,(l.take i).map (·.1),l,(l.length:Int),(i:Int),v.1,v.2.1,v.2.2.1,v.2.2.2.1,v.2.2.2.2.1,v.2.2.2.2.2.1,v.2.2.2.2.2.2.1,v.2.2.2.2.2.2.2.1,v.2.2.2.2.2.2.2.2,sl,gB [] (l.take i),([]:SMap),A,()) again=again (some 0,(l.take (i+1)).map (·.1),l,(l.length:Int),((i+1:Nat):Int),v.1,v.2.1,v.2.2.1,v.2.2.2.1,v.2.2.2.2.1,v.2.2.2.2.2.1,v.2.2.2.2.2.2.1,v.2.2.2.2.2.2.2.1,v.2.2.2.2.2.2.2.2,sl,gB [] (l.take (i+1)),([]:SMap),A,()):=by
   have hln:((l.take i).map (·.1)).length≤20:=by rw [WY,W3];omega
   unfold rH
   dsimp only
   rw [aM (by omega),bM,aR hi,Option.bind_some,aT (lY (by omega) (by omega)),aJ (by omega) (by omega),tF hi,Xs,aR hi,W4]
   rfl
  rw [e]
  exact ih _ rfl
 ·rintro _ again rfl
  unfold rH
  dsimp only
  rw [aN (by omega),Xv (XE _)]
theorem Pn (v:ai) (l:List aF) (hl:l.length≤20) (nm:List (List UInt8)) (hn:nm.length≤20) (M:SMap) (sl:List bN) (A:List bw) (f:Nat) (hf:l.length<f) (r:Option vV) (hr:r=iter f ((nm,(l.length:Int),(0:Int),v.1,v.2.1,v.2.2.1,v.2.2.2.1,v.2.2.2.2.1,v.2.2.2.2.2.1,v.2.2.2.2.2.2.1,v.2.2.2.2.2.2.2.1,v.2.2.2.2.2.2.2.2,sl,l,M,([]:SMap),A,()):rO) ri):
 r=some (Sum.inr (nm++l.map (·.1),v.1,v.2.1,v.2.2.1,v.2.2.2.1,v.2.2.2.2.1,v.2.2.2.2.2.1,v.2.2.2.2.2.2.1,v.2.2.2.2.2.2.2.1,v.2.2.2.2.2.2.2.2,sl,M,gB [] l,A,())):=by
 rw [hr]
 refine bS (Inv:=fun i X=>X=((nm++(l.take i).map (·.1),(l.length:Int),(i:Int),v.1,v.2.1,v.2.2.1,v.2.2.2.1,v.2.2.2.2.1,v.2.2.2.2.2.1,v.2.2.2.2.2.2.1,v.2.2.2.2.2.2.2.1,v.2.2.2.2.2.2.2.2,sl,l,M,gB [] (l.take i),A,()):rO)) l.length (fun r=>r=some (Sum.inr (nm++l.map (·.1),v.1,v.2.1,v.2.2.1,v.2.2.2.1,v.2.2.2.2.1,v.2.2.2.2.2.1,v.2.2.2.2.2.2.1,v.2.2.2.2.2.2.2.1,v.2.2.2.2.2.2.2.2,sl,M,gB [] l,A,()))) ?_ ?_ f 0 _ (by rw [List.take_zero,W7,Wu];rfl) (by omega) (by omega)
 ·rintro i _ again hi rfl ih
  have e:ri (nm++(l.take i).map (·.1),(l.length:Int),(i:Int),v.1,v.2.1,v.2.2.1,v.2.2.2.1,v.2.2.2.2.1,v.2.2.2.2.2.1,v.2.2.2.2.2.2.1,v.2.2.2.2.2.2.2.1,v.2.2.2.2.2.2.2.2,sl,l,M,gB [] (l.take i),A,()) again=again (nm++(l.take (i+1)).map (·.1),(l.length:Int),((i+1:Nat):Int),v.1,v.2.1,v.2.2.1,v.2.2.2.1,v.2.2.2.2.1,v.2.2.2.2.2.1,v.2.2.2.2.2.2.1,v.2.2.2.2.2.2.2.1,v.2.2.2.2.2.2.2.2,sl,l,M,gB [] (l.take (i+1)),A,()):=by
   have hln:(nm++(l.take i).map (·.1)).length≤40:=by rw [WV,WY,W3];omega
   unfold ri
   dsimp only
   rw [aM (by omega),aT (by simp only [VZ,decide_eq_true_eq];omega),Wo,aR hi,Option.bind_some,aT (lY (by omega) (by omega)),aJ (by omega) (by omega),tF hi,Xs,aR hi,W4,Wt]
   rfl
  rw [e]
  exact ih _ rfl
 ·rintro _ again rfl
  unfold ri
  dsimp only
  rw [aN (by omega),Xv (XE _)]
theorem Re (ns:List (List UInt8)) (hl:ns.length≤40) (pl:Int) (hp:0≤pl∧pl≤4) (M:SMap) (hM:Sk M) (sl:List bN) (hsl:sl.length≤10) (A:List bw) (f:Nat) (hf:ns.length<f) (r:Option vI)
 (hr:r=iter f ((sl,(ns.length:Int),(0:Int),0,pl,ns,M,M,A,()):rB) ot):r=some (Sum.inr (sl,A,())):=by
 rw [hr]
 refine bS (Inv:=fun i X=>X=((sl,(ns.length:Int),(i:Int),0,pl,ns,M,M,A,()):rB)) ns.length (fun r=>r=some (Sum.inr (sl,A,()))) ?_ ?_ f 0 _ rfl (by omega) (by omega)
 ·rintro i _ again hi rfl ih
  have e:ot (sl,(ns.length:Int),(i:Int),0,pl,ns,M,M,A,()) again=again (sl,(ns.length:Int),((i+1:Nat):Int),0,pl,ns,M,M,A,()):=by
   have hy:ns[i]? =some ns[i]:=aR hi
   generalize ns[i]=n at hy
   have hz:bA ((0,pl):ak):=⟨by simp,hp.1,by show pl≤9;omega⟩
   have hz0:bA ((0,0):ak):=⟨by simp,by simp,by simp⟩
   have hzz:qy ((0,0):ak)=qy ((0,pl):ak):=by simp [qy]
   have key:∀ a b c d:ak,bA a→bA b→bA c→bA d→qy a=qy b→qy c=qy d→(Option.bind (ff sl 6 n a b) fun r4=>Option.bind (ff r4.1 4 n c d) fun r5=>again (r5.1,(ns.length:Int),w64 ((i:Int)+1),0,pl,ns,M,M,A,()))=again (sl,(ns.length:Int),((i+1:Nat):Int),0,pl,ns,M,M,A,()):=by
    intro a b c d h1 h2 h3 h4 h5 h6
    rw [nG h1 h2 (by omega),Option.bind_some,if_pos h5]
    dsimp only
    rw [nG h3 h4 (by omega),Option.bind_some,if_pos h6,aJ (by omega) (by omega)]
    rfl
   cases hg:kG (k:= .str) (v:=bh) M n with
   | none=>
    refine Eq.trans ?_ (key (0,0) (0,pl) (0,0) (0,pl) hz0 hz hz0 hz hzz hzz)
    unfold ot
    dsimp only
    rw [aM (by omega),aT (by simp only [VZ,decide_eq_true_eq];omega),Wo,hy,Option.bind_some]
    simp only [Option.isSome_none,Wa,cond_true,aL,hg]
    rfl
   | some x=>
    have hx:=hM n x hg
    refine Eq.trans ?_ (key _ _ _ _ hx.1 hx.1 hx.2 hx.2 rfl rfl)
    unfold ot
    dsimp only
    rw [aM (by omega),aT (by simp only [VZ,decide_eq_true_eq];omega),Wo,hy,Option.bind_some]
    simp only [X1,Bool.not_true,cond_false,aL,hg]
    rfl
  rw [e]
  exact ih _ rfl
 ·rintro _ again rfl
  unfold ot
  dsimp only
  rw [aN (by omega)]
end Go.Md
namespace Go.Md
open Go.Dn
theorem Pm (l:List (List UInt8)):(Go.Lib.compact l).length≤l.length:=by
 unfold Go.Lib.compact Go.Lib.compactUpTo
 rw [WY]
 have:=WX (Go.Lib.keeps l.toArray) (List.range l.length)
 rwa [W1] at this
theorem T7 {v:ai} (h:ng v=0):∀ r∈aq v,tO r.1=true:=by
 have h1:rL (aq v)=0:=by
  unfold ng at h
  split at h
  ·omega
  split at h
  ·omega
  split at h
  ·omega
  split at h
  ·omega
  split at h
  ·omega
  split at h
  ·rename_i h2;exact absurd h h2
  rename_i h2
  exact Decidable.not_not.1 h2
 unfold rL at h1
 split at h1
 ·omega
 split at h1
 ·omega
 intro r hr
 obtain ⟨i,hi⟩:=Xe.1 hr
 have h2:=zq h1 i r hi
 unfold Kc at h2
 split at h2
 ·omega
 rename_i h3
 simpa using h3
theorem LS {v:ai} (hv:lC v) {z:Int} (hz:l9 z=true):bA (Bk v z):=by
 have h:=oT.1 hz
 have hp:0≤vPl v∧vPl v≤4:=hv.pl
 have:=C7
 exact ⟨by show z.natAbs≤_;omega,hp.1,by show vPl v≤9;omega⟩
theorem S8 {v:ai} (hv:lC v) {s:ShZ} (h:bq (pM s)=true):∀ d∈iU (bY v s),bA d:=by
 have ha:∀ z∈pM s,l9 z=true:=Wq.1 h
 intro d hd
 have:∃ z∈pM s,d=Bk v z:=by
  unfold iU bY at hd
  simp only [W9,List.not_mem_nil,or_false] at hd
  unfold pM
  rcases hd with rfl | rfl | rfl | rfl | rfl
  ·exact ⟨_,by simp,rfl⟩
  ·exact ⟨_,by simp,rfl⟩
  ·exact ⟨s.nets.sum+s.am.sum,by simp,rfl⟩
  ·exact ⟨s.taxes.sum,by simp,rfl⟩
  ·exact ⟨s.nets.sum+s.am.sum+s.taxes.sum,by simp,rfl⟩
 obtain ⟨z,hz,rfl⟩:=this
 exact LS hv (ha z hz)
theorem UL {v:ai} (h0:ng v=0) {s:ShZ} (hs:SOk v s):Th (qb v s):=by
 have hv:=uM h0
 have hrn:0<(aq v).length∧(aq v).length≤20:=hv.rn
 have mem:∀ x∈qb v s,∃ k,k<(aq v).length∧x=Cr v s k:=by
  intro x hx
  obtain ⟨k,hk,rfl⟩:=Xf.1 hx
  exact ⟨k,Xi.1 (List.mem_filter.1 hk).1,rfl⟩
 have name:∀ k,k<(aq v).length→∃ r,(aq v)[k]? =some r∧(Cr v s k).1=r.1:=by
  intro k hk
  refine ⟨(aq v)[k],aR hk, ?_⟩
  unfold Cr
  rw [List.getD_eq_getElem?_getD,aR hk]
  rfl
 refine ⟨?_, ?_, ?_, ?_⟩
 ·unfold qb
  rw [WY]
  have:=WX (fun k=>s.fl.contains k) (List.range (aq v).length)
  rw [W1] at this
  omega
 ·intro x hx
  obtain ⟨k,hk,rfl⟩:=mem x hx
  obtain ⟨r,hr,e⟩:=name k hk
  rw [e]
  exact T7 h0 r (List.mem_of_getElem? hr)
 ·intro i j x y hij hx hy
  unfold qb at hx hy
  rw [List.getElem?_map] at hx hy
  have hpw:(((List.range (aq v).length).filter fun k=>s.fl.contains k)).Pairwise (· < ·):=List.Pairwise.sublist List.filter_sublist List.pairwise_lt_range
  cases hi:((List.range (aq v).length).filter fun k=>s.fl.contains k)[i]? with
  | none=>rw [hi] at hx;cases hx
  | some a=>
   cases hj:((List.range (aq v).length).filter fun k=>s.fl.contains k)[j]? with
   | none=>rw [hj] at hy;cases hy
   | some b=>
    rw [hi] at hx
    rw [hj] at hy
    cases hx
    cases hy
    obtain ⟨hi1,hi2⟩:=List.getElem?_eq_some_iff.1 hi
    obtain ⟨hj1,hj2⟩:=List.getElem?_eq_some_iff.1 hj
    have hab:a<b:=by
     rw [← hi2, ← hj2]
     exact Xn.1 hpw i j hi1 hj1 hij
    have hbn:b<(aq v).length:=Xi.1 (List.mem_filter.1 (List.mem_of_getElem? hj)).1
    obtain ⟨p,hp,ep⟩:=name a (by omega)
    obtain ⟨q,hq,eq⟩:=name b hbn
    show Op.bytesLess (Cr v s a).1 (Cr v s b).1=true
    rw [ep,eq]
    exact hv.asc a b p q hab hp hq
 ·intro x hx
  obtain ⟨k,hk,rfl⟩:=mem x hx
  have h1:l9 (atB s.br k)=true:=Wq.1 hs.bs _ (List.mem_of_getElem? (mB s.br hk))
  have h2:l9 (LX v s.br k)=true:=by
   have ht:=hs.tx
   rw [hs.txe] at ht
   unfold pT at ht
   exact Wq.1 ht _ (List.mem_map_of_mem (Xi.2 hk))
  exact ⟨LS hv h1,LS hv h2⟩
def dh (out:List bN) (k:Int) (a b:ak):List bN:=if qy a=qy b then out else out++[(k,[],a,b)]
theorem Bu (out:List bN) (k:Int) (a b:ak):(dh out k a b).length≤out.length+1:=by
 unfold dh;split<;>simp
def Be (t r:eg):List bN:=dh (dh (dh (dh (dh [] 1 t.1 r.1) 2 t.2.1 r.2.1) 3 t.2.2.1 r.2.2.1) 4 t.2.2.2.1 r.2.2.2.1) 5 t.2.2.2.2 r.2.2.2.2
theorem JT {v:ai} {s:ShZ} (h:oq v= .inr s):zV v= .inr s:=by
 unfold oq at h
 cases hs:zV v with
 | inl f=>rw [hs] at h;cases h
 | inr t=>
  rw [hs] at h
  dsimp only at h
  cases ha:bq (pM t) with
  | false=>rw [ha] at h;cases h
  | true=>rw [ha,cond_true] at h;cases h;rfl
theorem IS {v:ai} {s:ShZ} (h:oq v= .inr s):bq (pM s)=true:=by
 unfold oq at h
 cases hs:zV v with
 | inl f=>rw [hs] at h;cases h
 | inr t=>
  rw [hs] at h
  dsimp only at h
  cases ha:bq (pM t) with
  | false=>rw [ha] at h;cases h
  | true=>rw [ha,cond_true] at h;cases h;exact ha
theorem K1 {v:ai} (h0:ng v=0) {s:ShZ} (hz:oq v= .inr s) {T:eg} (hT:∀ d∈iU T,bA d):sU v T (qb v s)=some (Be T (bY v s),0,()):=by
 have hv:=uM h0
 have hsh:=JT hz
 have ha:=IS hz
 have hs:=E1 hv hsh
 have hR:=S8 hv ha
 have hL:=UL h0 hs
 have hpl:0≤vPl v∧vPl v≤4:=hv.pl
 rcases nI h0 with ⟨lines,t,h1,_,_,e⟩ | ⟨f,hf,h1,e⟩
 ·rw [hsh] at h1
  cases h1
  have five:∀ d∈iU T,bA d:=hT
  have T1:bA T.1:=hT _ (by simp [iU])
  have T2:bA T.2.1:=hT _ (by simp [iU])
  have T3:bA T.2.2.1:=hT _ (by simp [iU])
  have T4:bA T.2.2.2.1:=hT _ (by simp [iU])
  have T5:bA T.2.2.2.2:=hT _ (by simp [iU])
  have R1:bA (bY v s).1:=hR _ (by simp [iU])
  have R2:bA (bY v s).2.1:=hR _ (by simp [iU])
  have R3:bA (bY v s).2.2.1:=hR _ (by simp [iU])
  have R4:bA (bY v s).2.2.2.1:=hR _ (by simp [iU])
  have R5:bA (bY v s).2.2.2.2:=hR _ (by simp [iU])
  have l1:=Bu [] 1 T.1 (bY v s).1
  have l2:=Bu (dh [] 1 T.1 (bY v s).1) 2 T.2.1 (bY v s).2.1
  have l3:=Bu (dh (dh [] 1 T.1 (bY v s).1) 2 T.2.1 (bY v s).2.1) 3 T.2.2.1 (bY v s).2.2.1
  have l4:=Bu (dh (dh (dh [] 1 T.1 (bY v s).1) 2 T.2.1 (bY v s).2.1) 3 T.2.2.1 (bY v s).2.2.1) 4 T.2.2.2.1 (bY v s).2.2.2.1
  have l5:=Bu (dh (dh (dh (dh [] 1 T.1 (bY v s).1) 2 T.2.1 (bY v s).2.1) 3 T.2.2.1 (bY v s).2.2.1) 4 T.2.2.2.1 (bY v s).2.2.2.1) 5 T.2.2.2.2 (bY v s).2.2.2.2
  have l0:([]:List bN).length=0:=rfl
  have g1:ff [] 1 [] T.1 (bY v s).1=some (dh [] 1 T.1 (bY v s).1,()):=nG T1 R1 (by omega)
  have g2:ff (dh [] 1 T.1 (bY v s).1) 2 [] T.2.1 (bY v s).2.1=some (dh (dh [] 1 T.1 (bY v s).1) 2 T.2.1 (bY v s).2.1,()):=nG T2 R2 (by omega)
  have g3:ff (dh (dh [] 1 T.1 (bY v s).1) 2 T.2.1 (bY v s).2.1) 3 [] T.2.2.1 (bY v s).2.2.1=some (dh (dh (dh [] 1 T.1 (bY v s).1) 2 T.2.1 (bY v s).2.1) 3 T.2.2.1 (bY v s).2.2.1,()):=nG T3 R3 (by omega)
  have g4:ff (dh (dh (dh [] 1 T.1 (bY v s).1) 2 T.2.1 (bY v s).2.1) 3 T.2.2.1 (bY v s).2.2.1) 4 [] T.2.2.2.1 (bY v s).2.2.2.1=some (dh (dh (dh (dh [] 1 T.1 (bY v s).1) 2 T.2.1 (bY v s).2.1) 3 T.2.2.1 (bY v s).2.2.1) 4 T.2.2.2.1 (bY v s).2.2.2.1,()):=nG T4 R4 (by omega)
  have g5:ff (dh (dh (dh (dh [] 1 T.1 (bY v s).1) 2 T.2.1 (bY v s).2.1) 3 T.2.2.1 (bY v s).2.2.1) 4 T.2.2.2.1 (bY v s).2.2.2.1) 5 [] T.2.2.2.2 (bY v s).2.2.2.2=some (Be T (bY v s),()):=nG T5 R5 (by omega)
  have hfl:(Be T (bY v s)).length≤10:=by show (dh _ _ _ _).length≤10;omega
  unfold sU
  rw [e,Option.bind_some]
  dsimp only
  rw [show ((0:Int) != 0)=false from rfl,cond_false,vM hv lines hs,ha,cond_true,Option.bind_some]
  dsimp only
  rw [show ((0:Int) != 0)=false from rfl,cond_false,S5 hT hL,Option.bind_some]
  dsimp only
  rw [show ((0:Int) != 0)=false from rfl,cond_false,g1,Option.bind_some,g2,Option.bind_some,g3,Option.bind_some,g4,Option.bind_some,g5,Option.bind_some]
  dsimp only
  have w1:=fun F hF=>Ui v (qb v s) hL.len (Be T (bY v s)) [fZ v lines s] F hF _ rfl
  rw [w1 _ (by with_reducible apply yE;with_reducible apply HE;repeat (with_reducible first | exact Nat.zero_lt_two | apply yE)),aL]
  dsimp only
  rw [I3 hv lines hs,Option.bind_some]
  dsimp only
  have hnl:((qb v s).map (·.1)).length≤20:=by rw [WY];exact hL.len
  have w2:=fun F hF=>Pn v (qb v s) hL.len ((qb v s).map (·.1)) hnl (gB [] (qb v s)) (Be T (bY v s)) [fZ v lines s] F hF _ rfl
  rw [w2 _ (by rw [WY,Wk];with_reducible apply HE;repeat (with_reducible first | exact Nat.zero_lt_two | apply yE)),aL]
  dsimp only
  generalize hN:List.map (fun x:aF=>x.1) (qb v s)++List.map (fun x:aF=>x.1) (qb v s)=N
  have hNl:N.length≤40:=by rw [← hN,WV];omega
  have hsrt:slices_Sort_string N=some (N.mergeSort fun x y=>decide (x≤y),()):=by
   show G8 N=_
   unfold G8
   rw [X9 (by omega),cond_true]
  rw [hsrt,Option.bind_some]
  dsimp only
  have hcmp:slices_Compact_string (N.mergeSort fun x y=>decide (x≤y))=some (Go.Lib.compact (N.mergeSort fun x y=>decide (x≤y)),()):=by
   show HH _=_
   unfold HH
   rw [X9 (by rw [List.length_mergeSort];omega),cond_true]
  rw [hcmp,Option.bind_some]
  dsimp only
  have hcl:(Go.Lib.compact (N.mergeSort fun x y=>decide (x≤y))).length≤40:=by
   have h1:=Pm (N.mergeSort fun x y=>decide (x≤y))
   rw [List.length_mergeSort] at h1
   omega
  have w3:=fun F hF=>Re (Go.Lib.compact (N.mergeSort fun x y=>decide (x≤y))) hcl (vPl v) hpl (gB [] (qb v s)) (B1 hL.dec (fun n x hx=>by cases hx)) (Be T (bY v s)) hfl [fZ v lines s] F hF _ rfl
  rw [w3 _ (by rw [Wk];with_reducible apply yE;with_reducible apply HE;repeat (with_reducible first | exact Nat.zero_lt_two | apply yE)),aL]
 ·rw [hsh] at h1
  cases h1
theorem Tf {v:ai} (h0:ng v=0) {s:ShZ} (hz:oq v= .inr s) {T:eg} (hT:∃ d∈iU T,¬bA d) (l:List aF):sU v T l=some ([],1,()):=by
 have hv:=uM h0
 have hsh:=JT hz
 have ha:=IS hz
 have hs:=E1 hv hsh
 rcases nI h0 with ⟨lines,t,h1,_,_,e⟩ | ⟨f,hf,h1,e⟩
 ·rw [hsh] at h1
  cases h1
  unfold sU
  rw [e,Option.bind_some]
  dsimp only
  rw [show ((0:Int) != 0)=false from rfl,cond_false,vM hv lines hs,ha,cond_true,Option.bind_some]
  dsimp only
  rw [show ((0:Int) != 0)=false from rfl,cond_false,SB l hT,Option.bind_some]
  rfl
 ·rw [hsh] at h1
  cases h1
end Go.Md
namespace Go.Md
open Go.Dn
theorem Pr {v:ai} (h0:ng v=0) {f:Int} (h:oq v= .inl f):f≠0:=by
 unfold oq at h
 rcases nI h0 with ⟨lines,s,h1,_⟩ | ⟨g,hg,h1,_⟩
 ·rw [h1] at h
  dsimp only at h
  cases ha:bq (pM s) with
  | true=>rw [ha,cond_true] at h;cases h
  | false=>rw [ha,cond_false] at h;cases h;omega
 ·rw [h1] at h;cases h;exact hg
theorem Uu (n:Int):∃ b,ER n 5=some (b,())∧0≤b∧b<5:=by
 unfold ER
 rw [aT (by decide)]
 have h1:=Int.tmod_lt_of_pos n (show (0:Int)<5 by decide)
 have h2: -5<Int.tmod n 5:=by
  have:=Int.tmod_lt_of_pos (-n) (show (0:Int)<5 by decide)
  rw [Int.neg_tmod] at this
  omega
 by_cases h:Int.tmod n 5<0
 ·rw [aM h,aJ (by omega) (by omega)]
  exact ⟨_,rfl,by omega,by omega⟩
 ·rw [aN h]
  exact ⟨_,rfl,by omega,by omega⟩
theorem Ue {u c p:Int} (hc:0<c) (_hp:p≤9):qy ((u+c,p):ak)≠qy ((u,p):ak):=by
 unfold qy
 dsimp only
 rw [Int.add_mul]
 have:=Int.mul_pos hc (yJ (9 - p).toNat)
 omega
theorem Sl (t:eg):Be t t=[]:=by
 unfold Be dh
 rw [if_pos rfl,if_pos rfl,if_pos rfl,if_pos rfl,if_pos rfl]
theorem MV (v:ai) (n:Int):lD v n=some (true,()):=by
 unfold lD
 rw [NG,Option.bind_some,OZ,Option.bind_some]
 by_cases h0:ng v=0
 ·have hv:=uM h0
  unfold Km M5
  rw [if_neg (by simpa using h0),if_neg (by simpa using h0)]
  cases hz:oq v with
  | inl f=>
   have hf:=Pr h0 hz
   dsimp only
   rw [show (f != 0)=true by simpa using hf,cond_true,show (f==f)=true by simp,cond_true,Fb]
   rfl
  | inr s=>
   have ha:=IS hz
   have hR:=S8 hv ha
   have hpl:0≤vPl v∧vPl v≤4:=hv.pl
   dsimp only
   rw [show ((0:Int) != 0)=false from rfl,cond_false,cond_false,K1 h0 hz hR,Sl,Option.bind_some]
   dsimp only
   rw [show ((0:Int) != 0)=false from rfl,cond_false,show (((([]:List bN).length:Nat):Int) != 0)=false from rfl,cond_false,Fb,Option.bind_some]
   dsimp only
   rw [Bool.not_true,cond_false]
   obtain ⟨b,eb,b1,b2⟩:=Uu n
   rw [eb,Option.bind_some]
   dsimp only
   have hu:l9 s.taxes.sum=true:=Wq.1 ha _ (by simp [pM])
   have hu2:=oT.1 hu
   have hMU:=C7
   have e4:(bY v s).2.2.2.1=(s.taxes.sum,vPl v):=rfl
   rw [aJ (n:=1+b) (by omega) (by omega),e4]
   dsimp only
   rw [aJ (n:=s.taxes.sum+(1+b)) (by omega) (by omega)]
   generalize hO:(((bY v s).1,(bY v s).2.1,(bY v s).2.2.1,(s.taxes.sum+(1+b),vPl v),(bY v s).2.2.2.2):eg)=O
   have hO4:iU O=[(bY v s).1,(bY v s).2.1,(bY v s).2.2.1,(s.taxes.sum+(1+b),vPl v),(bY v s).2.2.2.2]:=by rw [← hO];rfl
   by_cases hbig:(s.taxes.sum+(1+b)).natAbs≤1000000000000000
   ·have hOk:∀ d∈iU O,bA d:=by
     rw [hO4]
     intro d hd
     simp only [W9,List.not_mem_nil,or_false] at hd
     rcases hd with rfl | rfl | rfl | rfl | rfl
     ·exact hR _ (by simp [iU])
     ·exact hR _ (by simp [iU])
     ·exact hR _ (by simp [iU])
     ·exact ⟨hbig,hpl.1,by show vPl v≤9;omega⟩
     ·exact hR _ (by simp [iU])
    have hF:Be O (bY v s)=[(4,[],(s.taxes.sum+(1+b),vPl v),(s.taxes.sum,vPl v))]:=by
     rw [← hO]
     unfold Be dh
     dsimp only
     rw [if_pos rfl,if_pos rfl,if_pos rfl,e4,if_neg (Ue (by omega) (by omega)),if_pos rfl]
     rfl
    rw [K1 h0 hz hOk,hF,Option.bind_some]
    dsimp only
    rw [show ((0:Int) != 0)=false from rfl,cond_false]
    simp only [WW,WZ,WJ,Option.bind_some,beq_self_eq_true,Bool.and_self]
    rfl
   ·rw [Tf h0 hz ⟨(s.taxes.sum+(1+b),vPl v),by rw [hO4];simp,fun h=>hbig h.1⟩,Option.bind_some]
    rfl
 ·unfold Km M5
  rw [if_pos h0,if_pos h0]
  dsimp only
  rw [show (ng v != 0)=true by simpa using h0,cond_true,show (ng v==ng v)=true by simp,cond_true,Fb]
  rfl
end Go.Md
