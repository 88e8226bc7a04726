/-
  Plain facts: the sheet of an invoice, by the program; the plain law BillReversedIsOpposite is true of all data. No condition.
-/
import Derived.Test.YtalfglakknbjkaaGreatDoorRt
import Derived.Test.YtalfglakknbjkaaGreatDoorRn
set_option linter.all false
namespace Go.Md
open Go.Dn
theorem A8 (z:Int):ji (W z)=some (lN z,()):=yV z
theorem tK {zs:List Int} {i:Nat} {z:Int} (h:zs[i]? =some z):bp (zs.take (i+1))=(bp (zs.take i)&&lN z):=by
 unfold bp
 rw [XB,h,List.all_append];simp
theorem AX {zs:List Int} {i:Nat} {z:Int} (h:zs[i]? =some z) (hz:lN z=false):bp zs=false:=by
 unfold bp
 rw [List.all_eq_false]
 exact ⟨z,List.mem_of_getElem? h,by simp [hz]⟩
theorem contains_eq (zs:List Int) (hl:zs.length≤1000):ia (zs.map W) ()=some (!bp zs,()):=by
 unfold ia ng
 have loop:∀ f,zs.length<f→(bp zs=true∧iter f ((zs.map W,(),(zs.length:Int),(0:Int),()):fL) fK=some (Sum.inr ()))∨
  (bp zs=false∧∃ j:Nat,iter f ((zs.map W,(),(zs.length:Int),(0:Int),()):fL) fK=some (Sum.inl ((j:Int),()))):=by
  intro f hf
  refine bQ (Inv:=fun i X=>X=(zs.map W,(),(zs.length:Int),(i:Int),())∧bp (zs.take i)=true) zs.length (fun r=>(bp zs=true∧r=some (Sum.inr ()))∨(bp zs=false∧∃ j:Nat,r=some (Sum.inl ((j:Int),())))) ?_ ?_ f 0 _ ⟨rfl,rfl⟩ (by omega) (by omega)
  ·rintro i _ again hi ⟨rfl,hal⟩ ih
   unfold fK
   dsimp only
   have hz:zs[i]? =some zs[i]:=aW hi
   generalize zs[i]=z at hz
   rw [aM (by omega),bR,List.getElem?_map,hz,Yc,Option.bind_some]
   unfold sE
   rw [A8,Option.bind_some,Option.bind_some]
   dsimp only
   cases h:lN z with
   | true=>
    rw [Bool.not_true,cond_false,aI (by omega) (by omega)]
    exact ih _ ⟨rfl,by rw [tK hz,hal,h];rfl⟩
   | false=>exact .inr ⟨AX hz h,i,rfl⟩
  ·rintro _ again ⟨rfl,hal⟩
   unfold fK
   dsimp only
   rw [XE (XN _)] at hal
   rw [aL (by omega)]
   exact .inl ⟨hal,rfl⟩
 rw [W7]
 rcases loop (zs.length+(Int.natAbs ((zs.length:Int))+(Int.natAbs (0:Int)+2))) (by omega) with ⟨h,e⟩ | ⟨h,j,e⟩
 ·rw [e,aK,Option.bind_some,h];rfl
 ·rw [e,mu,Option.bind_some,h]
  dsimp only
  rw [Yi (show (j:Int)≥0 by omega)];rfl
theorem HX (zs:List Int) (hl:zs.length≤1000):bL (zs.map W) ()=some (!bp zs,()):=by
 unfold bL lK
 have loop:∀ f,zs.length<f→(bp zs=true∧iter f ((zs.map W,(),(zs.length:Int),(0:Int),()):eI) eF=some (Sum.inr ()))∨
  (bp zs=false∧∃ j:Nat,iter f ((zs.map W,(),(zs.length:Int),(0:Int),()):eI) eF=some (Sum.inl ((j:Int),()))):=by
  intro f hf
  refine bQ (Inv:=fun i X=>X=(zs.map W,(),(zs.length:Int),(i:Int),())∧bp (zs.take i)=true) zs.length (fun r=>(bp zs=true∧r=some (Sum.inr ()))∨(bp zs=false∧∃ j:Nat,r=some (Sum.inl ((j:Int),())))) ?_ ?_ f 0 _ ⟨rfl,rfl⟩ (by omega) (by omega)
  ·rintro i _ again hi ⟨rfl,hal⟩ ih
   unfold eF
   dsimp only
   have hz:zs[i]? =some zs[i]:=aW hi
   generalize zs[i]=z at hz
   rw [aM (by omega),bR,List.getElem?_map,hz,Yc,Option.bind_some]
   unfold uO
   rw [A8,Option.bind_some,Option.bind_some]
   dsimp only
   cases h:lN z with
   | true=>
    rw [Bool.not_true,cond_false,aI (by omega) (by omega)]
    exact ih _ ⟨rfl,by rw [tK hz,hal,h];rfl⟩
   | false=>exact .inr ⟨AX hz h,i,rfl⟩
  ·rintro _ again ⟨rfl,hal⟩
   unfold eF
   dsimp only
   rw [XE (XN _)] at hal
   rw [aL (by omega)]
   exact .inl ⟨hal,rfl⟩
 rw [W7]
 rcases loop (zs.length+(Int.natAbs ((zs.length:Int))+(Int.natAbs (0:Int)+2))) (by omega) with ⟨h,e⟩ | ⟨h,j,e⟩
 ·rw [e,aK,Option.bind_some,h];rfl
 ·rw [e,mu,Option.bind_some,h]
  dsimp only
  rw [Yi (show (j:Int)≥0 by omega)];rfl
theorem Ox (zs:List Int) (hl:zs.length≤1000):gz (zs.map W) ()=some (!bp zs,()):=by
 unfold gz lJ
 have loop:∀ f,zs.length<f→(bp zs=true∧iter f ((zs.map W,(),(zs.length:Int),(0:Int),()):eH) eE=some (Sum.inr ()))∨
  (bp zs=false∧∃ j:Nat,iter f ((zs.map W,(),(zs.length:Int),(0:Int),()):eH) eE=some (Sum.inl ((j:Int),()))):=by
  intro f hf
  refine bQ (Inv:=fun i X=>X=(zs.map W,(),(zs.length:Int),(i:Int),())∧bp (zs.take i)=true) zs.length (fun r=>(bp zs=true∧r=some (Sum.inr ()))∨(bp zs=false∧∃ j:Nat,r=some (Sum.inl ((j:Int),())))) ?_ ?_ f 0 _ ⟨rfl,rfl⟩ (by omega) (by omega)
  ·rintro i _ again hi ⟨rfl,hal⟩ ih
   unfold eE
   dsimp only
   have hz:zs[i]? =some zs[i]:=aW hi
   generalize zs[i]=z at hz
   rw [aM (by omega),bR,List.getElem?_map,hz,Yc,Option.bind_some]
   unfold x9
   rw [A8,Option.bind_some,Option.bind_some]
   dsimp only
   cases h:lN z with
   | true=>
    rw [Bool.not_true,cond_false,aI (by omega) (by omega)]
    exact ih _ ⟨rfl,by rw [tK hz,hal,h];rfl⟩
   | false=>exact .inr ⟨AX hz h,i,rfl⟩
  ·rintro _ again ⟨rfl,hal⟩
   unfold eE
   dsimp only
   rw [XE (XN _)] at hal
   rw [aL (by omega)]
   exact .inl ⟨hal,rfl⟩
 rw [W7]
 rcases loop (zs.length+(Int.natAbs ((zs.length:Int))+(Int.natAbs (0:Int)+2))) (by omega) with ⟨h,e⟩ | ⟨h,j,e⟩
 ·rw [e,aK,Option.bind_some,h];rfl
 ·rw [e,mu,Option.bind_some,h]
  dsimp only
  rw [Yi (show (j:Int)≥0 by omega)];rfl
theorem OH (zs:List Int) (hl:zs.length≤1000):gy (zs.map W) ()=some (!bp zs,()):=by
 unfold gy lU
 have loop:∀ f,zs.length<f→(bp zs=true∧iter f ((zs.map W,(),(zs.length:Int),(0:Int),()):eL) eD=some (Sum.inr ()))∨
  (bp zs=false∧∃ j:Nat,iter f ((zs.map W,(),(zs.length:Int),(0:Int),()):eL) eD=some (Sum.inl ((j:Int),()))):=by
  intro f hf
  refine bQ (Inv:=fun i X=>X=(zs.map W,(),(zs.length:Int),(i:Int),())∧bp (zs.take i)=true) zs.length (fun r=>(bp zs=true∧r=some (Sum.inr ()))∨(bp zs=false∧∃ j:Nat,r=some (Sum.inl ((j:Int),())))) ?_ ?_ f 0 _ ⟨rfl,rfl⟩ (by omega) (by omega)
  ·rintro i _ again hi ⟨rfl,hal⟩ ih
   unfold eD
   dsimp only
   have hz:zs[i]? =some zs[i]:=aW hi
   generalize zs[i]=z at hz
   rw [aM (by omega),bR,List.getElem?_map,hz,Yc,Option.bind_some]
   unfold tw
   rw [A8,Option.bind_some,Option.bind_some]
   dsimp only
   cases h:lN z with
   | true=>
    rw [Bool.not_true,cond_false,aI (by omega) (by omega)]
    exact ih _ ⟨rfl,by rw [tK hz,hal,h];rfl⟩
   | false=>exact .inr ⟨AX hz h,i,rfl⟩
  ·rintro _ again ⟨rfl,hal⟩
   unfold eD
   dsimp only
   rw [XE (XN _)] at hal
   rw [aL (by omega)]
   exact .inl ⟨hal,rfl⟩
 rw [W7]
 rcases loop (zs.length+(Int.natAbs ((zs.length:Int))+(Int.natAbs (0:Int)+2))) (by omega) with ⟨h,e⟩ | ⟨h,j,e⟩
 ·rw [e,aK,Option.bind_some,h];rfl
 ·rw [e,mu,Option.bind_some,h]
  dsimp only
  rw [Yi (show (j:Int)≥0 by omega)];rfl
theorem NC (l:List aa) (hl:l.length≤1000):mb l=some (l,()):=by
 unfold mb
 have hc:(decide ((0+l.length)*32≤140737488355328)&&decide (0+l.length≤maxLen))=true:=by
  simp only [Wa,decide_eq_true_eq];rw [Oj];omega
 rw [aR hc]
 cases l with
 | nil=>exact Ta _
 | cons x r=>rfl
def shW (p:Nat×Int):aD:=((p.1:Int),W p.2)
def cR (n:Nat) (fl:List Nat):List Bool:=(List.range n).map fun k=>fl.contains k
theorem qg (n:Nat) (fl:List Nat):(cR n fl).length=n:=by simp [cR]
theorem Ul (n:Nat):cR n []=List.replicate n false:=by
 unfold cR
 apply WO
 intro i
 by_cases hi:i<n
 ·rw [List.getElem?_map,WX hi,WY,if_pos hi];rfl
 ·rw [WW (by simp;omega),WW (by simp;omega)]
theorem DW {n k:Nat} (fl:List Nat):(cR n fl).set k true=cR n (fl++[k]):=by
 apply WO
 intro i
 by_cases hi:i<n
 ·have e:∀ f,(cR n f)[i]? =some (f.contains i):=fun f=>by unfold cR;rw [List.getElem?_map,WX hi];rfl
  rw [e]
  by_cases h:k=i
  ·subst h
   rw [W1 (by rw [qg];exact hi)];simp
  ·rw [W0 h,e]
   simp [show ¬ i=k from fun x=>h x.symm]
 ·rw [WW (by rw [Xb,qg];omega),WW (by rw [qg];omega)]
theorem DL {n k:Nat} (fl:List Nat) (h:k<n):(cR n fl)[k]? =some (fl.contains k):=by
 unfold cR;rw [List.getElem?_map,WX h];rfl
theorem Rb (n:Nat):(aQ n []).map W=List.replicate n (false,[]):=by
 apply WO
 intro i
 by_cases hi:i<n
 ·rw [List.getElem?_map,tc _ hi,WY,if_pos hi];rfl
 ·rw [WW (by rw [W7,gC];omega),WW (by simp;omega)]
def Bx (v:ai) (nets lines bases:List Int) (sh:Br) (am:List Int) (has:List Bool) (tx:List Int):ai×(List aa)×(List aa)×(List aa)×(List aD)×(List aa)×(List Bool)×(List aa)×Unit:=
 (v,nets.map W,lines.map W,bases.map W,sh.map shW,am.map W,has,tx.map W,())
theorem Cb (v:ai):∀ (a b:List aq),dH v (a++b)=match dH v a with | some l=>(dH v b).map (l++ ·) | none=>none
 | [],b=>by simp [dH]
 | x::a,b=>by
  simp only [WG,dH]
  cases wA v x with
  | none=>rfl
  | some n=>
   dsimp only
   rw [Cb v a b]
   cases dH v a with
   | none=>rfl
   | some l=>cases dH v b<;>rfl
def OQ (v:ai) (x:aq):Nat:=(gV (·.1) x.2.2.2.2.2.2.2.2 (av v)).getD 0
theorem QS {v:ai} {l:List aq} {i:Nat} {x:aq} (hx:l[i]? =some x) {b:Br} (h:dH v (l.take i)=some b):
 dH v (l.take (i+1))=(wA v x).map fun n=>b++[(OQ v x,n)]:=by
 rw [XB,hx,Cb,h]
 simp only [Option.toList,dH]
 cases wA v x<;>rfl
theorem QV {v:ai} {l:List aq} {i:Nat} (h:dH v (l.take i)=none):dH v l=none:=by
 have:=Cb v (l.take i) (l.drop i)
 rw [XC,h] at this
 exact this
theorem Es:MU=1000000000000000:=rfl
structure iw (n:Nat) (b:Br):Prop where
 ix:∀ p∈b,p.1<n
 am:∀ p∈b,(p.2.natAbs:Int)≤MU
theorem Vl {n:Nat} {b:Br} (h:iw n b) (k:Nat):(atB b k).natAbs≤b.length*1000000000000000:=by
 have am:=h.am
 have hMU:=Es
 clear h
 induction b with
 | nil=>simp [atB]
 | cons p b ih=>
  have h1:=ih fun q hq=>am q (Xj _ hq)
  have h2:=am p Xk
  simp only [atB,W6,XH,X0]
  split<;>omega
theorem Qr {n:Nat} {b:Br} (h:iw n b) (hl:b.length≤2000) (k:Nat):Le 19 (atB b k):=by
 have h1:=Vl h k
 have h2:b.length*1000000000000000≤2000*1000000000000000:=XY _ hl
 exact Le.int (by omega) (by omega)
theorem CD {z:Int} (h:(z.natAbs:Int)≤MU):Le 19 z:=by
 have:=Es
 exact Le.int (by omega) (by omega)
theorem QC {v:ai} (hv:k8 v) (f:Nat) (hf:(bg v).length<f) (b0:List aa) (a0 t0:List aa):
 (∃ lb,dH v (bg v)=some lb∧iw (av v).length lb∧lb.length=(bg v).length∧iter f ((bg v,((bg v).length:Int),(0:Int),v.1,v.2.1,v.2.2.1,v.2.2.2.1,v.2.2.2.2.1,v.2.2.2.2.2.1,v.2.2.2.2.2.2.1,v.2.2.2.2.2.2.2.1,v.2.2.2.2.2.2.2.2,([]:List aa),([]:List aD),List.replicate (Int.toNat ((av v).length:Int)) ((false,[]):aa),List.replicate (Int.toNat ((av v).length:Int)) false,b0,a0,t0,()):gZ) jU=some (Sum.inr (v.1,v.2.1,v.2.2.1,v.2.2.2.1,v.2.2.2.2.1,v.2.2.2.2.2.1,v.2.2.2.2.2.2.1,v.2.2.2.2.2.2.2.1,v.2.2.2.2.2.2.2.2,(lb.map (·.2)).map W,lb.map shW,(aQ (av v).length lb).map W,cR (av v).length (lb.map (·.1)),b0,a0,t0,())))∨
 (dH v (bg v)=none∧∃ b,iter f ((bg v,((bg v).length:Int),(0:Int),v.1,v.2.1,v.2.2.1,v.2.2.2.1,v.2.2.2.2.1,v.2.2.2.2.2.1,v.2.2.2.2.2.2.1,v.2.2.2.2.2.2.2.1,v.2.2.2.2.2.2.2.2,([]:List aa),([]:List aD),List.replicate (Int.toNat ((av v).length:Int)) ((false,[]):aa),List.replicate (Int.toNat ((av v).length:Int)) false,b0,a0,t0,()):gZ) jU=some (Sum.inl (1,b,()))):=by
 have hrn:0<(av v).length∧(av v).length≤20:=hv.rn
 have hln:0<(bg v).length∧(bg v).length≤500:=hv.ln
 refine bQ (Inv:=fun i X=>∃ lb,dH v ((bg v).take i)=some lb∧iw (av v).length lb∧lb.length=i∧X=((bg v,((bg v).length:Int),(i:Int),v.1,v.2.1,v.2.2.1,v.2.2.2.1,v.2.2.2.2.1,v.2.2.2.2.2.1,v.2.2.2.2.2.2.1,v.2.2.2.2.2.2.2.1,v.2.2.2.2.2.2.2.2,(lb.map (·.2)).map W,lb.map shW,(aQ (av v).length lb).map W,cR (av v).length (lb.map (·.1)),b0,a0,t0,()):gZ)) (bg v).length
  (fun r=>(∃ lb,dH v (bg v)=some lb∧iw (av v).length lb∧lb.length=(bg v).length∧r=some (Sum.inr (v.1,v.2.1,v.2.2.1,v.2.2.2.1,v.2.2.2.2.1,v.2.2.2.2.2.1,v.2.2.2.2.2.2.1,v.2.2.2.2.2.2.2.1,v.2.2.2.2.2.2.2.2,(lb.map (·.2)).map W,lb.map shW,(aQ (av v).length lb).map W,cR (av v).length (lb.map (·.1)),b0,a0,t0,())))∨(dH v (bg v)=none∧∃ b,r=some (Sum.inl (1,b,())))) ?_ ?_ f 0 _ ⟨[],rfl,⟨by simp,by simp⟩,rfl, ?_⟩ (by omega) (by omega)
 ·rintro i _ again hi ⟨lb,h1,h2,h3,rfl⟩ ih
  unfold jU
  dsimp only
  have hx:(bg v)[i]? =some (bg v)[i]:=aW hi
  have hxm:=W4 hi
  generalize (bg v)[i]=x at hx hxm
  have hxo:=hv.lines x hxm
  have hstep:=QS hx h1
  rw [aM (by omega),bR,hx,Option.bind_some]
  rw [show (v.1,v.2.1,v.2.2.1,v.2.2.2.1,v.2.2.2.2.1,v.2.2.2.2.2.1,v.2.2.2.2.2.2.1,v.2.2.2.2.2.2.2.1,v.2.2.2.2.2.2.2.2)=v from rfl,Rf hv hxo,Option.bind_some]
  dsimp only
  cases hn:wA v x with
  | none=>
   rw [hn] at hstep
   exact .inr ⟨QV hstep,_,rfl⟩
  | some d=>
   rw [hn] at hstep
   obtain ⟨hd1,hd2⟩:=N4 hn
   rw [Ya,Bool.not_true,cond_false, ← hd1]
   obtain ⟨k,hk1,hk2⟩:=AM (av v) x.2.2.2.2.2.2.2.2 (by omega) hv.asc
   obtain ⟨k',hk'⟩:=X9.1 hxo.rate
   obtain rfl:=hk2 k' hk'
   obtain ⟨rt,hrt,_⟩:=pN hk'
   have hkl:k<(av v).length:=(List.getElem?_eq_some_iff.1 hrt).1
   have hrk:OQ v x=k:=by unfold OQ;rw [hk'];rfl
   rw [hk1,Option.bind_some]
   dsimp only
   have hcm:(cR (av v).length (lb.map (·.1)))[k]? =some ((lb.map (·.1)).contains k):=DL _ hkl
   have hbm:((aQ (av v).length lb).map W)[k]? =some (W (atB lb k)):=by rw [List.getElem?_map,tc _ hkl];rfl
   have hck:(decide (0≤(k:Int))&&decide ((k:Int)<(((aQ (av v).length lb).map W).length:Int)))=true:=by
    rw [W7,gC];simp only [Wa,decide_eq_true_eq];omega
   rw [aR (mZ (by simp;omega) (by simp;omega)),aR hck,Wy,hbm,Option.bind_some,dn _ _ ((Qr h2 (by omega) k).w (by omega)) ((CD hd2).w (by omega)),Option.bind_some,aR hck,Option.bind_some,aR (mZ (by simp;omega) (by simp;omega)),aR (by rw [qg];simp only [Wa,decide_eq_true_eq];omega),hcm,Option.bind_some,aI (by omega) (by omega)]
   refine ih _ ⟨lb++[(k,d)],by rw [hstep,hrk];rfl,⟨?_, ?_⟩,by simp [h3], ?_⟩
   ·intro p hp
    rcases Xh.1 hp with hp | hp
    ·exact h2.ix p hp
    ·rw [Xs.1 hp];exact hkl
   ·intro p hp
    rcases Xh.1 hp with hp | hp
    ·exact h2.am p hp
    ·rw [Xs.1 hp];exact hd2
   ·dsimp only
    rw [← List.map_set,KR,DW]
    simp only [Xd,Xf,Xg,shW]
    rfl
 ·rintro _ again ⟨lb,h1,h2,h3,rfl⟩
  unfold jU
  dsimp only
  rw [aL (by omega)]
  rw [XE (XN _)] at h1
  exact .inl ⟨lb,h1,h2,h3,rfl⟩
 ·simp only [Xg,Ul,Rb,Wy]
  rfl
theorem ML {v:ai} (hv:k8 v):
 (∃ lb,dH v (bg v)=some lb∧iw (av v).length lb∧lb.length=(bg v).length∧bp (aQ (av v).length lb)=true∧mL (v,[],[],[],[],[],[],[],())=some (0,Bx v (lb.map (·.2)) (aQ (av v).length lb) (aQ (av v).length lb) lb [] (cR (av v).length (lb.map (·.1))) [],()))∨
 ((dH v (bg v)=none∨∃ lb,dH v (bg v)=some lb∧bp (aQ (av v).length lb)=false)∧∃ b,mL (v,[],[],[],[],[],[],[],())=some (1,b,())):=by
 have hrn:0<(av v).length∧(av v).length≤20:=hv.rn
 have hrn':=hv.rn
 unfold mL
 dsimp only
 rw [aR (by simp only [Wa,decide_eq_true_eq];omega),aR (by simp only [Wa,decide_eq_true_eq];omega)]
 rcases QC hv ((bg v).length+(Int.natAbs (((bg v).length:Int))+(Int.natAbs (0:Int)+(v.1.length+(v.2.1.length+(v.2.2.1.natAbs+(v.2.2.2.1.natAbs+(v.2.2.2.2.1.natAbs+(v.2.2.2.2.2.2.1.length+(v.2.2.2.2.2.2.2.1.length+(v.2.2.2.2.2.2.2.2.length+(List.length ([]:List aa)+(List.length ([]:List aD)+(List.length (List.replicate (Int.toNat ((av v).length:Int)) ((false,[]):aa))+(List.length (List.replicate (Int.toNat ((av v).length:Int)) false)+(List.length ([]:List aa)+(List.length ([]:List aa)+(List.length ([]:List aa)+2)))))))))))))))))) (by omega) [] [] [] with ⟨lb,h1,h2,h3,e⟩ | ⟨h1,b,e⟩
 ·rw [e,aK]
  dsimp only
  have hbl:=gC (av v).length lb
  rw [contains_eq _ (by rw [hbl];omega),Option.bind_some]
  dsimp only
  cases ha:bp (aQ (av v).length lb) with
  | true=>
   rw [Bool.not_true,cond_false,NC _ (by rw [W7,hbl];omega),Option.bind_some]
   exact .inl ⟨lb,h1,h2,h3,ha,rfl⟩
  | false=>exact .inr ⟨.inr ⟨lb,h1,ha⟩,_,rfl⟩
 ·rw [e,mu]
  exact .inr ⟨.inl h1,b,rfl⟩
end Go.Md
namespace Go.Md
open Go.Dn
def RE (v5:((List Int)×Bool×Bool×(List Int)×(List UInt8)×(List UInt8)×Int×Int×Int×Bool×(List az)×(List aq)×(List au)×(List aa)×(List aa)×(List aa)×(List aD)×(List aa)×(List Bool)×(List aa)×Unit)):Option (Int×(ai×(List aa)×(List aa)×(List aa)×(List aD)×(List aa)×(List Bool)×(List aa)×Unit)×Unit):=
 bif !v5.2.1 then
  Option.bind (fH ((v5.2.2.2.2.1,v5.2.2.2.2.2.1,v5.2.2.2.2.2.2.1,v5.2.2.2.2.2.2.2.1,v5.2.2.2.2.2.2.2.2.1,v5.2.2.2.2.2.2.2.2.2.1,v5.2.2.2.2.2.2.2.2.2.2.1,v5.2.2.2.2.2.2.2.2.2.2.2.1,v5.2.2.2.2.2.2.2.2.2.2.2.2.1),v5.2.2.2.2.2.2.2.2.2.2.2.2.2.2.1,v5.2.2.2.2.2.2.2.2.2.2.2.2.2.1,v5.2.2.2.2.2.2.2.2.2.2.2.2.2.2.2.1,v5.2.2.2.2.2.2.2.2.2.2.2.2.2.2.2.2.1,v5.2.2.2.2.2.2.2.2.2.2.2.2.2.2.2.2.2.1,v5.2.2.2.2.2.2.2.2.2.2.2.2.2.2.2.2.2.2.1,v5.2.2.2.2.2.2.2.2.2.2.2.2.2.2.2.2.2.2.2.1,()) 0 (v5.2.2.1,v5.2.2.2.1)) fun r6=>
  chk (decide (0≤(0:Int))&&decide ((0:Int)<(r6.1.2.2.2.2.2.2.1.length:Int))) <|
  Option.bind (r6.1.2.2.2.2.2.2.1[0]?) fun y7=>
  bif y7 then
   chk (decide (0≤(0:Int))&&decide ((0:Int)<(r6.1.2.2.2.2.2.2.1.length:Int))) <|
   Option.bind (r6.1.2.2.2.2.2.2.1[0]?) fun _=>
   some (0,(r6.1.1,r6.1.2.1,r6.1.2.2.1,r6.1.2.2.2.1,r6.1.2.2.2.2.1,r6.1.2.2.2.2.2.1,List.set r6.1.2.2.2.2.2.2.1 0 true,r6.1.2.2.2.2.2.2.2.1,()),())
  else
   Option.bind (aC (v5.2.2.1,v5.2.2.2.1)) fun r9=>
   chk (decide (0≤(0:Int))&&decide ((0:Int)<(r6.1.2.2.2.2.2.2.1.length:Int))) <|
   Option.bind (r6.1.2.2.2.2.2.2.1[0]?) fun _=>
   some (0,(r6.1.1,r6.1.2.1,r6.1.2.2.1,r6.1.2.2.2.1,r6.1.2.2.2.2.1,r6.1.2.2.2.2.2.1,List.set r6.1.2.2.2.2.2.2.1 0 (r9.1 != 0),r6.1.2.2.2.2.2.2.2.1,()),())
 else
  Option.bind (iU v5.1 ()) fun r11=>
  bif r11.1 then
   some (2,((v5.2.2.2.2.1,v5.2.2.2.2.2.1,v5.2.2.2.2.2.2.1,v5.2.2.2.2.2.2.2.1,v5.2.2.2.2.2.2.2.2.1,v5.2.2.2.2.2.2.2.2.2.1,v5.2.2.2.2.2.2.2.2.2.2.1,v5.2.2.2.2.2.2.2.2.2.2.2.1,v5.2.2.2.2.2.2.2.2.2.2.2.2.1),v5.2.2.2.2.2.2.2.2.2.2.2.2.2.2.1,v5.2.2.2.2.2.2.2.2.2.2.2.2.2.1,v5.2.2.2.2.2.2.2.2.2.2.2.2.2.2.2.1,v5.2.2.2.2.2.2.2.2.2.2.2.2.2.2.2.2.1,v5.2.2.2.2.2.2.2.2.2.2.2.2.2.2.2.2.2.1,v5.2.2.2.2.2.2.2.2.2.2.2.2.2.2.2.2.2.2.1,v5.2.2.2.2.2.2.2.2.2.2.2.2.2.2.2.2.2.2.2.1,()),())
  else
   Option.bind (qm (v5.2.2.1,v5.2.2.2.1) v5.2.2.2.2.2.2.2.1) fun r12=>
   Option.bind (sV r12.1 v5.1) fun r13=>
   bif r13.2.1 != 0 then
    some (r13.2.1,((v5.2.2.2.2.1,v5.2.2.2.2.2.1,v5.2.2.2.2.2.2.1,v5.2.2.2.2.2.2.2.1,v5.2.2.2.2.2.2.2.2.1,v5.2.2.2.2.2.2.2.2.2.1,v5.2.2.2.2.2.2.2.2.2.2.1,v5.2.2.2.2.2.2.2.2.2.2.2.1,v5.2.2.2.2.2.2.2.2.2.2.2.2.1),v5.2.2.2.2.2.2.2.2.2.2.2.2.2.2.1,v5.2.2.2.2.2.2.2.2.2.2.2.2.2.1,v5.2.2.2.2.2.2.2.2.2.2.2.2.2.2.2.1,v5.2.2.2.2.2.2.2.2.2.2.2.2.2.2.2.2.1,v5.2.2.2.2.2.2.2.2.2.2.2.2.2.2.2.2.2.1,v5.2.2.2.2.2.2.2.2.2.2.2.2.2.2.2.2.2.2.1,v5.2.2.2.2.2.2.2.2.2.2.2.2.2.2.2.2.2.2.2.1,()),())
   else
    aO (β:=(Int×(ai×(List aa)×(List aa)×(List aa)×(List aD)×(List aa)×(List Bool)×(List aa)×Unit)×Unit)) (γ:=((List UInt8)×(List UInt8)×Int×Int×Int×Bool×(List az)×(List aq)×(List au)×(List aa)×(List aa)×(List aa)×(List aD)×(List aa)×(List Bool)×(List aa)×Unit)) (
     iter (X:=gY) (β:=mX) (r13.1.length+(Int.natAbs ((r13.1.length:Int))+(Int.natAbs (0:Int)+(v5.2.2.2.2.1.length+(v5.2.2.2.2.2.1.length+(v5.2.2.2.2.2.2.1.natAbs+(v5.2.2.2.2.2.2.2.1.natAbs+(v5.2.2.2.2.2.2.2.2.1.natAbs+(v5.2.2.2.2.2.2.2.2.2.2.1.length+(v5.2.2.2.2.2.2.2.2.2.2.2.1.length+(v5.2.2.2.2.2.2.2.2.2.2.2.2.1.length+(v5.2.2.2.2.2.2.2.2.2.2.2.2.2.2.1.length+(v5.2.2.2.2.2.2.2.2.2.2.2.2.2.1.length+(v5.2.2.2.2.2.2.2.2.2.2.2.2.2.2.2.1.length+(v5.2.2.2.2.2.2.2.2.2.2.2.2.2.2.2.2.1.length+(v5.2.2.2.2.2.2.2.2.2.2.2.2.2.2.2.2.2.1.length+(v5.2.2.2.2.2.2.2.2.2.2.2.2.2.2.2.2.2.2.1.length+(v5.2.2.2.2.2.2.2.2.2.2.2.2.2.2.2.2.2.2.2.1.length+2)))))))))))))))))) (r13.1,(r13.1.length:Int),0,v5.2.2.2.2.1,v5.2.2.2.2.2.1,v5.2.2.2.2.2.2.1,v5.2.2.2.2.2.2.2.1,v5.2.2.2.2.2.2.2.2.1,v5.2.2.2.2.2.2.2.2.2.1,v5.2.2.2.2.2.2.2.2.2.2.1,v5.2.2.2.2.2.2.2.2.2.2.2.1,v5.2.2.2.2.2.2.2.2.2.2.2.2.1,v5.2.2.2.2.2.2.2.2.2.2.2.2.2.2.1,v5.2.2.2.2.2.2.2.2.2.2.2.2.2.1,v5.2.2.2.2.2.2.2.2.2.2.2.2.2.2.2.1,v5.2.2.2.2.2.2.2.2.2.2.2.2.2.2.2.2.1,v5.2.2.2.2.2.2.2.2.2.2.2.2.2.2.2.2.2.1,v5.2.2.2.2.2.2.2.2.2.2.2.2.2.2.2.2.2.2.1,v5.2.2.2.2.2.2.2.2.2.2.2.2.2.2.2.2.2.2.2.1,()) (kg)) fun v19=>
    some (0,((v19.1,v19.2.1,v19.2.2.1,v19.2.2.2.1,v19.2.2.2.2.1,v19.2.2.2.2.2.1,v19.2.2.2.2.2.2.1,v19.2.2.2.2.2.2.2.1,v19.2.2.2.2.2.2.2.2.1),v19.2.2.2.2.2.2.2.2.2.1,v19.2.2.2.2.2.2.2.2.2.2.1,v19.2.2.2.2.2.2.2.2.2.2.2.1,v19.2.2.2.2.2.2.2.2.2.2.2.2.1,v19.2.2.2.2.2.2.2.2.2.2.2.2.2.1,v19.2.2.2.2.2.2.2.2.2.2.2.2.2.2.1,v19.2.2.2.2.2.2.2.2.2.2.2.2.2.2.2.1,()),())
def NW (v8:(Int×Bool×Bool×Int×Int×(List UInt8)×Bool×(List Int)×(List UInt8)×(List UInt8)×Int×Int×Int×Bool×(List az)×(List aq)×(List au)×(List aa)×(List aa)×(List aa)×(List aD)×(List aa)×(List Bool)×(List aa)×Unit)):Option (Int×(ai×(List aa)×(List aa)×(List aa)×(List aD)×(List aa)×(List Bool)×(List aa)×Unit)×Unit):=
 Option.bind (pn (v8.2.2.2.1,v8.2.2.2.2.1) (if v8.2.2.2.2.1>v8.2.2.2.2.2.2.2.2.2.2.2.1 then v8.2.2.2.2.1 else v8.2.2.2.2.2.2.2.2.2.2.2.1)) fun r9=>
 aO (β:=(Int×(ai×(List aa)×(List aa)×(List aa)×(List aD)×(List aa)×(List Bool)×(List aa)×Unit)×Unit)) (γ:=(Int×Bool×Bool×(List Int)×(List UInt8)×(List UInt8)×Int×Int×Int×Bool×(List az)×(List aq)×(List au)×(List aa)×(List aa)×(List aa)×(List aD)×(List aa)×(List Bool)×(List aa)×Unit)) (
  bif v8.2.2.1 then
   Option.bind (pX (v8.2.2.2.2.2.2.2.2.1,v8.2.2.2.2.2.2.2.2.2.1,v8.2.2.2.2.2.2.2.2.2.2.1,v8.2.2.2.2.2.2.2.2.2.2.2.1,v8.2.2.2.2.2.2.2.2.2.2.2.2.1,v8.2.2.2.2.2.2.2.2.2.2.2.2.2.1,v8.2.2.2.2.2.2.2.2.2.2.2.2.2.2.1,v8.2.2.2.2.2.2.2.2.2.2.2.2.2.2.2.1,v8.2.2.2.2.2.2.2.2.2.2.2.2.2.2.2.2.1) (v8.2.2.2.2.2.2.1,v8.2.2.2.2.2.2.2.1) (v8.2.2.2.1,v8.2.2.2.2.1)) fun r10=>
   some (Sum.inr (v8.1,v8.2.1,r10.1.1,r10.1.2,v8.2.2.2.2.2.2.2.2.1,v8.2.2.2.2.2.2.2.2.2.1,v8.2.2.2.2.2.2.2.2.2.2.1,v8.2.2.2.2.2.2.2.2.2.2.2.1,v8.2.2.2.2.2.2.2.2.2.2.2.2.1,v8.2.2.2.2.2.2.2.2.2.2.2.2.2.1,v8.2.2.2.2.2.2.2.2.2.2.2.2.2.2.1,v8.2.2.2.2.2.2.2.2.2.2.2.2.2.2.2.1,v8.2.2.2.2.2.2.2.2.2.2.2.2.2.2.2.2.1,v8.2.2.2.2.2.2.2.2.2.2.2.2.2.2.2.2.2.1,v8.2.2.2.2.2.2.2.2.2.2.2.2.2.2.2.2.2.2.1,v8.2.2.2.2.2.2.2.2.2.2.2.2.2.2.2.2.2.2.2.1,v8.2.2.2.2.2.2.2.2.2.2.2.2.2.2.2.2.2.2.2.2.1,v8.2.2.2.2.2.2.2.2.2.2.2.2.2.2.2.2.2.2.2.2.2.1,v8.2.2.2.2.2.2.2.2.2.2.2.2.2.2.2.2.2.2.2.2.2.2.1,v8.2.2.2.2.2.2.2.2.2.2.2.2.2.2.2.2.2.2.2.2.2.2.2.1,()))
  else
   some (Sum.inr (v8.1,v8.2.1,r9.1.1,r9.1.2,v8.2.2.2.2.2.2.2.2.1,v8.2.2.2.2.2.2.2.2.2.1,v8.2.2.2.2.2.2.2.2.2.2.1,v8.2.2.2.2.2.2.2.2.2.2.2.1,v8.2.2.2.2.2.2.2.2.2.2.2.2.1,v8.2.2.2.2.2.2.2.2.2.2.2.2.2.1,v8.2.2.2.2.2.2.2.2.2.2.2.2.2.2.1,v8.2.2.2.2.2.2.2.2.2.2.2.2.2.2.2.1,v8.2.2.2.2.2.2.2.2.2.2.2.2.2.2.2.2.1,v8.2.2.2.2.2.2.2.2.2.2.2.2.2.2.2.2.2.1,v8.2.2.2.2.2.2.2.2.2.2.2.2.2.2.2.2.2.2.1,v8.2.2.2.2.2.2.2.2.2.2.2.2.2.2.2.2.2.2.2.1,v8.2.2.2.2.2.2.2.2.2.2.2.2.2.2.2.2.2.2.2.2.1,v8.2.2.2.2.2.2.2.2.2.2.2.2.2.2.2.2.2.2.2.2.2.1,v8.2.2.2.2.2.2.2.2.2.2.2.2.2.2.2.2.2.2.2.2.2.2.1,v8.2.2.2.2.2.2.2.2.2.2.2.2.2.2.2.2.2.2.2.2.2.2.2.1,()))) fun v11=>
 Option.bind (ji (v11.2.2.1,v11.2.2.2.1)) fun r12=>
 bif !r12.1 then
  some (1,((v11.2.2.2.2.1,v11.2.2.2.2.2.1,v11.2.2.2.2.2.2.1,v11.2.2.2.2.2.2.2.1,v11.2.2.2.2.2.2.2.2.1,v11.2.2.2.2.2.2.2.2.2.1,v11.2.2.2.2.2.2.2.2.2.2.1,v11.2.2.2.2.2.2.2.2.2.2.2.1,v11.2.2.2.2.2.2.2.2.2.2.2.2.1),v11.2.2.2.2.2.2.2.2.2.2.2.2.2.2.1,v11.2.2.2.2.2.2.2.2.2.2.2.2.2.1,v11.2.2.2.2.2.2.2.2.2.2.2.2.2.2.2.1,v11.2.2.2.2.2.2.2.2.2.2.2.2.2.2.2.2.1,v11.2.2.2.2.2.2.2.2.2.2.2.2.2.2.2.2.2.1,v11.2.2.2.2.2.2.2.2.2.2.2.2.2.2.2.2.2.2.1,v11.2.2.2.2.2.2.2.2.2.2.2.2.2.2.2.2.2.2.2.1,()),())
 else
  chk (decide (((v11.2.2.2.2.2.2.2.2.2.2.2.2.2.2.2.2.2.1.length)+1)*32≤140737488355328)&&decide ((v11.2.2.2.2.2.2.2.2.2.2.2.2.2.2.2.2.2.1.length)+1≤maxLen)) <|
  bif v11.2.1 then
   Option.bind (fH ((v11.2.2.2.2.1,v11.2.2.2.2.2.1,v11.2.2.2.2.2.2.1,v11.2.2.2.2.2.2.2.1,v11.2.2.2.2.2.2.2.2.1,v11.2.2.2.2.2.2.2.2.2.1,v11.2.2.2.2.2.2.2.2.2.2.1,v11.2.2.2.2.2.2.2.2.2.2.2.1,v11.2.2.2.2.2.2.2.2.2.2.2.2.1),v11.2.2.2.2.2.2.2.2.2.2.2.2.2.2.1,v11.2.2.2.2.2.2.2.2.2.2.2.2.2.1,v11.2.2.2.2.2.2.2.2.2.2.2.2.2.2.2.1,v11.2.2.2.2.2.2.2.2.2.2.2.2.2.2.2.2.1,v11.2.2.2.2.2.2.2.2.2.2.2.2.2.2.2.2.2.1++[(v11.2.2.1,v11.2.2.2.1)],v11.2.2.2.2.2.2.2.2.2.2.2.2.2.2.2.2.2.2.1,v11.2.2.2.2.2.2.2.2.2.2.2.2.2.2.2.2.2.2.2.1,()) v11.1 (v11.2.2.1,v11.2.2.2.1)) fun r13=>
   chk (decide (0≤v11.1)&&decide (v11.1<(r13.1.2.2.2.2.2.2.1.length:Int))) <|
   Option.bind (r13.1.2.2.2.2.2.2.1[v11.1.toNat]?) fun _=>
   Option.bind (bL r13.1.2.2.2.1 ()) fun r15=>
   bif r15.1 then
    some (1,(r13.1.1,r13.1.2.1,r13.1.2.2.1,r13.1.2.2.2.1,r13.1.2.2.2.2.1,r13.1.2.2.2.2.2.1,List.set r13.1.2.2.2.2.2.2.1 v11.1.toNat true,r13.1.2.2.2.2.2.2.2.1,()),())
   else
    some (0,(r13.1.1,r13.1.2.1,r13.1.2.2.1,r13.1.2.2.2.1,r13.1.2.2.2.2.1,r13.1.2.2.2.2.2.1,List.set r13.1.2.2.2.2.2.2.1 v11.1.toNat true,r13.1.2.2.2.2.2.2.2.1,()),())
  else
   Option.bind (gD ((v11.2.2.2.2.1,v11.2.2.2.2.2.1,v11.2.2.2.2.2.2.1,v11.2.2.2.2.2.2.2.1,v11.2.2.2.2.2.2.2.2.1,v11.2.2.2.2.2.2.2.2.2.1,v11.2.2.2.2.2.2.2.2.2.2.1,v11.2.2.2.2.2.2.2.2.2.2.2.1,v11.2.2.2.2.2.2.2.2.2.2.2.2.1),v11.2.2.2.2.2.2.2.2.2.2.2.2.2.2.1,v11.2.2.2.2.2.2.2.2.2.2.2.2.2.1,v11.2.2.2.2.2.2.2.2.2.2.2.2.2.2.2.1,v11.2.2.2.2.2.2.2.2.2.2.2.2.2.2.2.2.1,v11.2.2.2.2.2.2.2.2.2.2.2.2.2.2.2.2.2.1++[(v11.2.2.1,v11.2.2.2.1)],v11.2.2.2.2.2.2.2.2.2.2.2.2.2.2.2.2.2.2.1,v11.2.2.2.2.2.2.2.2.2.2.2.2.2.2.2.2.2.2.2.1,()) (v11.2.2.1,v11.2.2.2.1)) fun r16=>
   bif r16.1 != 0 then
    some (r16.1,(r16.2.1.1,r16.2.1.2.1,r16.2.1.2.2.1,r16.2.1.2.2.2.1,r16.2.1.2.2.2.2.1,r16.2.1.2.2.2.2.2.1,r16.2.1.2.2.2.2.2.2.1,r16.2.1.2.2.2.2.2.2.2.1,()),())
   else
    Option.bind (bL r16.2.1.2.2.2.1 ()) fun r17=>
    bif r17.1 then
     some (1,(r16.2.1.1,r16.2.1.2.1,r16.2.1.2.2.1,r16.2.1.2.2.2.1,r16.2.1.2.2.2.2.1,r16.2.1.2.2.2.2.2.1,r16.2.1.2.2.2.2.2.2.1,r16.2.1.2.2.2.2.2.2.2.1,()),())
    else
     some (0,(r16.2.1.1,r16.2.1.2.1,r16.2.1.2.2.1,r16.2.1.2.2.2.1,r16.2.1.2.2.2.2.1,r16.2.1.2.2.2.2.2.1,r16.2.1.2.2.2.2.2.2.1,r16.2.1.2.2.2.2.2.2.2.1,()),())
def Bl (v11:(Int×Bool×Bool×(List Int)×(List UInt8)×(List UInt8)×Int×Int×Int×Bool×(List az)×(List aq)×(List au)×(List aa)×(List aa)×(List aa)×(List aD)×(List aa)×(List Bool)×(List aa)×Unit)):Option (Int×(ai×(List aa)×(List aa)×(List aa)×(List aD)×(List aa)×(List Bool)×(List aa)×Unit)×Unit):=
 Option.bind (ji (v11.2.2.1,v11.2.2.2.1)) fun r12=>
 bif !r12.1 then
  some (1,((v11.2.2.2.2.1,v11.2.2.2.2.2.1,v11.2.2.2.2.2.2.1,v11.2.2.2.2.2.2.2.1,v11.2.2.2.2.2.2.2.2.1,v11.2.2.2.2.2.2.2.2.2.1,v11.2.2.2.2.2.2.2.2.2.2.1,v11.2.2.2.2.2.2.2.2.2.2.2.1,v11.2.2.2.2.2.2.2.2.2.2.2.2.1),v11.2.2.2.2.2.2.2.2.2.2.2.2.2.2.1,v11.2.2.2.2.2.2.2.2.2.2.2.2.2.1,v11.2.2.2.2.2.2.2.2.2.2.2.2.2.2.2.1,v11.2.2.2.2.2.2.2.2.2.2.2.2.2.2.2.2.1,v11.2.2.2.2.2.2.2.2.2.2.2.2.2.2.2.2.2.1,v11.2.2.2.2.2.2.2.2.2.2.2.2.2.2.2.2.2.2.1,v11.2.2.2.2.2.2.2.2.2.2.2.2.2.2.2.2.2.2.2.1,()),())
 else
  chk (decide (((v11.2.2.2.2.2.2.2.2.2.2.2.2.2.2.2.2.2.1.length)+1)*32≤140737488355328)&&decide ((v11.2.2.2.2.2.2.2.2.2.2.2.2.2.2.2.2.2.1.length)+1≤maxLen)) <|
  bif v11.2.1 then
   Option.bind (fH ((v11.2.2.2.2.1,v11.2.2.2.2.2.1,v11.2.2.2.2.2.2.1,v11.2.2.2.2.2.2.2.1,v11.2.2.2.2.2.2.2.2.1,v11.2.2.2.2.2.2.2.2.2.1,v11.2.2.2.2.2.2.2.2.2.2.1,v11.2.2.2.2.2.2.2.2.2.2.2.1,v11.2.2.2.2.2.2.2.2.2.2.2.2.1),v11.2.2.2.2.2.2.2.2.2.2.2.2.2.2.1,v11.2.2.2.2.2.2.2.2.2.2.2.2.2.1,v11.2.2.2.2.2.2.2.2.2.2.2.2.2.2.2.1,v11.2.2.2.2.2.2.2.2.2.2.2.2.2.2.2.2.1,v11.2.2.2.2.2.2.2.2.2.2.2.2.2.2.2.2.2.1++[(v11.2.2.1,v11.2.2.2.1)],v11.2.2.2.2.2.2.2.2.2.2.2.2.2.2.2.2.2.2.1,v11.2.2.2.2.2.2.2.2.2.2.2.2.2.2.2.2.2.2.2.1,()) v11.1 (v11.2.2.1,v11.2.2.2.1)) fun r13=>
   chk (decide (0≤v11.1)&&decide (v11.1<(r13.1.2.2.2.2.2.2.1.length:Int))) <|
   Option.bind (r13.1.2.2.2.2.2.2.1[v11.1.toNat]?) fun _=>
   Option.bind (bL r13.1.2.2.2.1 ()) fun r15=>
   bif r15.1 then
    some (1,(r13.1.1,r13.1.2.1,r13.1.2.2.1,r13.1.2.2.2.1,r13.1.2.2.2.2.1,r13.1.2.2.2.2.2.1,List.set r13.1.2.2.2.2.2.2.1 v11.1.toNat true,r13.1.2.2.2.2.2.2.2.1,()),())
   else
    some (0,(r13.1.1,r13.1.2.1,r13.1.2.2.1,r13.1.2.2.2.1,r13.1.2.2.2.2.1,r13.1.2.2.2.2.2.1,List.set r13.1.2.2.2.2.2.2.1 v11.1.toNat true,r13.1.2.2.2.2.2.2.2.1,()),())
  else
   Option.bind (gD ((v11.2.2.2.2.1,v11.2.2.2.2.2.1,v11.2.2.2.2.2.2.1,v11.2.2.2.2.2.2.2.1,v11.2.2.2.2.2.2.2.2.1,v11.2.2.2.2.2.2.2.2.2.1,v11.2.2.2.2.2.2.2.2.2.2.1,v11.2.2.2.2.2.2.2.2.2.2.2.1,v11.2.2.2.2.2.2.2.2.2.2.2.2.1),v11.2.2.2.2.2.2.2.2.2.2.2.2.2.2.1,v11.2.2.2.2.2.2.2.2.2.2.2.2.2.1,v11.2.2.2.2.2.2.2.2.2.2.2.2.2.2.2.1,v11.2.2.2.2.2.2.2.2.2.2.2.2.2.2.2.2.1,v11.2.2.2.2.2.2.2.2.2.2.2.2.2.2.2.2.2.1++[(v11.2.2.1,v11.2.2.2.1)],v11.2.2.2.2.2.2.2.2.2.2.2.2.2.2.2.2.2.2.1,v11.2.2.2.2.2.2.2.2.2.2.2.2.2.2.2.2.2.2.2.1,()) (v11.2.2.1,v11.2.2.2.1)) fun r16=>
   bif r16.1 != 0 then
    some (r16.1,(r16.2.1.1,r16.2.1.2.1,r16.2.1.2.2.1,r16.2.1.2.2.2.1,r16.2.1.2.2.2.2.1,r16.2.1.2.2.2.2.2.1,r16.2.1.2.2.2.2.2.2.1,r16.2.1.2.2.2.2.2.2.2.1,()),())
   else
    Option.bind (bL r16.2.1.2.2.2.1 ()) fun r17=>
    bif r17.1 then
     some (1,(r16.2.1.1,r16.2.1.2.1,r16.2.1.2.2.1,r16.2.1.2.2.2.1,r16.2.1.2.2.2.2.1,r16.2.1.2.2.2.2.2.1,r16.2.1.2.2.2.2.2.2.1,r16.2.1.2.2.2.2.2.2.2.1,()),())
    else
     some (0,(r16.2.1.1,r16.2.1.2.1,r16.2.1.2.2.1,r16.2.1.2.2.2.1,r16.2.1.2.2.2.2.1,r16.2.1.2.2.2.2.2.1,r16.2.1.2.2.2.2.2.2.1,r16.2.1.2.2.2.2.2.2.2.1,()),())
theorem K8 (z:Int) (h:z.natAbs<4294967296 ^ 99):xJ (W z)=some (W (z.natAbs:Int),()):=by
 unfold xJ
 have hl:=UG h
 rw [jL _ (W z).2 (dZ _) (by omega)]
 simp only [Option.bind_some,Wd,Ym]
 congr 3
 simp only [W,dW]
theorem Mg (zs:List Nat) (hl:zs.length≤1000):iU (wI zs) ()=some (zs.any fun z=>decide (1000000000<z),()):=by
 unfold iU rU
 have loop:∀ f,zs.length<f→((zs.any fun z=>decide (1000000000<z))=false∧iter f ((wI zs,(),(zs.length:Int),(0:Int),()):iT) iV=some (Sum.inr ()))∨
  ((zs.any fun z=>decide (1000000000<z))=true∧∃ j:Nat,iter f ((wI zs,(),(zs.length:Int),(0:Int),()):iT) iV=some (Sum.inl ((j:Int),()))):=by
  intro f hf
  refine bQ (Inv:=fun i X=>X=(wI zs,(),(zs.length:Int),(i:Int),())∧((zs.take i).any fun z=>decide (1000000000<z))=false) zs.length (fun r=>((zs.any fun z=>decide (1000000000<z))=false∧r=some (Sum.inr ()))∨((zs.any fun z=>decide (1000000000<z))=true∧∃ j:Nat,r=some (Sum.inl ((j:Int),())))) ?_ ?_ f 0 _ ⟨rfl,rfl⟩ (by omega) (by omega)
  ·rintro i _ again hi ⟨rfl,hal⟩ ih
   unfold iV
   dsimp only
   have hz:zs[i]? =some zs[i]:=aW hi
   generalize zs[i]=z at hz
   rw [aM (by omega),bR,MJ hz,Option.bind_some]
   unfold tG
   rw [Option.bind_some]
   dsimp only
   by_cases h:(z:Int)>1000000000
   ·rw [aM h]
    refine .inr ⟨?_,i,rfl⟩
    rw [WC]
    exact ⟨z,List.mem_of_getElem? hz,by rw [decide_eq_true_eq];omega⟩
   ·rw [aL h,aI (by omega) (by omega)]
    refine ih _ ⟨rfl, ?_⟩
    rw [XB,hz,List.any_append,hal]
    simp;omega
  ·rintro _ again ⟨rfl,hal⟩
   unfold iV
   dsimp only
   rw [XE (XN _)] at hal
   rw [aL (by omega)]
   exact .inl ⟨hal,rfl⟩
 rw [uW]
 rcases loop (zs.length+(Int.natAbs ((zs.length:Int))+(Int.natAbs (0:Int)+2))) (by omega) with ⟨h,e⟩ | ⟨h,j,e⟩
 ·rw [e,aK,Option.bind_some,h];rfl
 ·rw [e,mu,Option.bind_some,h]
  dsimp only
  rw [Yi (show (j:Int)≥0 by omega)]
theorem iw.snoc {n:Nat} {b:Br} (h:iw n b) {k:Nat} {d:Int} (hk:k<n) (hd:(d.natAbs:Int)≤MU):iw n (b++[(k,d)]):=by
 refine ⟨fun p hp=> ?_,fun p hp=> ?_⟩
 ·rcases Xh.1 hp with hp | hp
  ·exact h.ix p hp
  ·rw [Xs.1 hp];exact hk
 ·rcases Xh.1 hp with hp | hp
  ·exact h.am p hp
  ·rw [Xs.1 hp];exact hd
theorem Lr (v:ai) (nets lines:List Int) {n:Nat} (hn:n≤20) {sh:Br} (hsh:iw n sh) (hl:sh.length≤1999) (am:List Int) (has:List Bool) (tx:List Int) {k:Nat} (hk:k<n) {d:Int} (hd:(d.natAbs:Int)≤MU):
 fH (Bx v nets lines (aQ n sh) sh am has tx) (k:Int) (W d)=some (Bx v nets lines (aQ n (sh++[(k,d)])) (sh++[(k,d)]) am has tx,()):=by
 unfold fH Bx
 dsimp only
 have hbm:((aQ n sh).map W)[k]? =some (W (atB sh k)):=by rw [List.getElem?_map,tc _ hk];rfl
 have hck:(decide (0≤(k:Int))&&decide ((k:Int)<(((aQ n sh).map W).length:Int)))=true:=by
  rw [W7,gC];simp only [Wa,decide_eq_true_eq];omega
 rw [aR hck,Wy,hbm,Option.bind_some,dn _ _ ((Qr hsh (by omega) k).w (by omega)) ((CD hd).w (by omega)),Option.bind_some,aR hck,Option.bind_some,aR (mZ (by simp;omega) (by simp;omega))]
 dsimp only
 rw [← List.map_set,KR,Xd]
 rfl
theorem Rr {v:ai} {lines:List Int} (hl:lines.length≤20) (hal:bp lines=true) (a:aa) (N L B:List aa) (S:List aD) (A:List aa) (H:List Bool) (T:List aa) (f:Nat) (hf:lines.length<f):
 iter f (([],false,lines.map W,(lines.length:Int),(0:Int),a.1,a.2,v.1,v.2.1,v.2.2.1,v.2.2.2.1,v.2.2.2.2.1,v.2.2.2.2.2.1,v.2.2.2.2.2.2.1,v.2.2.2.2.2.2.2.1,v.2.2.2.2.2.2.2.2,N,L,B,S,A,H,T,()):kG) nQ=
  some (Sum.inr (wI (lines.map Int.natAbs), !(lines.all fun b=>b==0),a.1,a.2,v.1,v.2.1,v.2.2.1,v.2.2.2.1,v.2.2.2.2.1,v.2.2.2.2.2.1,v.2.2.2.2.2.2.1,v.2.2.2.2.2.2.2.1,v.2.2.2.2.2.2.2.2,N,L,B,S,A,H,T,())):=by
 refine bQ (Inv:=fun i X=>X=((wI ((lines.take i).map Int.natAbs), !((lines.take i).all fun b=>b==0),lines.map W,(lines.length:Int),(i:Int),a.1,a.2,v.1,v.2.1,v.2.2.1,v.2.2.2.1,v.2.2.2.2.1,v.2.2.2.2.2.1,v.2.2.2.2.2.2.1,v.2.2.2.2.2.2.2.1,v.2.2.2.2.2.2.2.2,N,L,B,S,A,H,T,()):kG)) lines.length
  (fun r=>r=some (Sum.inr (wI (lines.map Int.natAbs), !(lines.all fun b=>b==0),a.1,a.2,v.1,v.2.1,v.2.2.1,v.2.2.2.1,v.2.2.2.2.1,v.2.2.2.2.2.1,v.2.2.2.2.2.2.1,v.2.2.2.2.2.2.2.1,v.2.2.2.2.2.2.2.2,N,L,B,S,A,H,T,()))) ?_ ?_ f 0 _ rfl (by omega) (by omega)
 ·rintro i _ again hi rfl ih
  unfold nQ
  dsimp only
  have hz:lines[i]? =some lines[i]:=aW hi
  have hzm:lN lines[i]=true:=WA.1 hal _ (W4 hi)
  generalize lines[i]=z at hz hzm
  have hzb:(z.natAbs:Int)≤MU:=by unfold lN at hzm;exact Yr hzm
  have hMU:=Es
  have hw:=CD hzb
  rw [aM (by omega),bR,List.getElem?_map,hz,Yc,Option.bind_some,K8 _ (hw.w (by omega)),Option.bind_some]
  dsimp only
  rw [sI _ _ (by omega) (by omega),Option.bind_some,if_pos (by omega)]
  dsimp only
  rw [aR (mZ (by rw [uW];simp;omega) (by rw [uW];simp;omega)),aI (by omega) (by omega)]
  have e1:wI ((lines.take i).map Int.natAbs)++[(z.natAbs:Int)]=wI ((lines.take (i+1)).map Int.natAbs):=by
   rw [XB,hz,Xd]
   unfold wI
   rw [Xd]
   rfl
  have e2:((lines.take (i+1)).all fun b=>b==0)=(((lines.take i).all fun b=>b==0)&&(z==0)):=by
   rw [XB,hz,List.all_append];simp
  have:=ih _ rfl
  rw [← e1,e2] at this
  cases hx:((lines.take i).all fun b=>b==0) with
  | false=>rw [hx] at this;exact this
  | true=>
   rw [hx,Wn] at this
   rw [Bool.not_true,cond_false]
   have e3:decide ((z.natAbs:Int)>0)= !(z==0):=by
    by_cases h:z=0
    ·subst h;rfl
    ·rw [Yi (by omega),show (z==0)=false by simpa using h];rfl
   rw [e3];exact this
 ·rintro _ again rfl
  unfold nQ
  dsimp only
  rw [aL (by omega),XE (XN _)]
theorem R6 {v:ai} {nets lines am tx:List Int} {n:Nat} (hn:n≤20) {sh:Br} (hsh:iw n sh) (hl:sh.length≤1900) (fl:List Nat) {xs:List Int} {pl:Int} (hxl:xs.length=n) (hxs:∀ x∈xs,(x.natAbs:Int)≤MU) (f:Nat) (hf:xs.length<f):
 iter f ((xs.map (fun x=>(x,pl)),(xs.length:Int),(0:Int),v.1,v.2.1,v.2.2.1,v.2.2.2.1,v.2.2.2.2.1,v.2.2.2.2.2.1,v.2.2.2.2.2.2.1,v.2.2.2.2.2.2.2.1,v.2.2.2.2.2.2.2.2,nets.map W,lines.map W,(aQ n sh).map W,sh.map shW,am.map W,cR n fl,tx.map W,()):gY) kg=
  some (Sum.inr (v.1,v.2.1,v.2.2.1,v.2.2.2.1,v.2.2.2.2.1,v.2.2.2.2.2.1,v.2.2.2.2.2.2.1,v.2.2.2.2.2.2.2.1,v.2.2.2.2.2.2.2.2,nets.map W,lines.map W,(aQ n (sh++gq 0 xs)).map W,(sh++gq 0 xs).map shW,am.map W,cR n (fl++(gq 0 xs).map (·.1)),tx.map W,())):=by
 have nz_snoc:∀ (l:List Int) (k:Nat) (x:Int),gq k (l++[x])=gq k l++(if x=0 then [] else [(k+l.length,x)]):=by
  intro l
  induction l with
  | nil=>intro k x;simp [gq]
  | cons y l ih=>
   intro k x
   simp only [WG,gq,ih (k+1) x,W6]
   rw [show k+1+l.length=k+(l.length+1) by omega]
   split<;>simp
 have nz_len:∀ (l:List Int) (k:Nat),(gq k l).length≤l.length:=by
  intro l
  induction l with
  | nil=>intro k;simp [gq]
  | cons y l ih=>
   intro k
   have:=ih (k+1)
   simp only [gq]
   split<;>simp<;>omega
 refine bQ (Inv:=fun i X=>iw n (sh++gq 0 (xs.take i))∧X=((xs.map (fun x=>(x,pl)),(xs.length:Int),(i:Int),v.1,v.2.1,v.2.2.1,v.2.2.2.1,v.2.2.2.2.1,v.2.2.2.2.2.1,v.2.2.2.2.2.2.1,v.2.2.2.2.2.2.2.1,v.2.2.2.2.2.2.2.2,nets.map W,lines.map W,(aQ n (sh++gq 0 (xs.take i))).map W,(sh++gq 0 (xs.take i)).map shW,am.map W,cR n (fl++(gq 0 (xs.take i)).map (·.1)),tx.map W,()):gY)) xs.length
  (fun r=>r=some (Sum.inr (v.1,v.2.1,v.2.2.1,v.2.2.2.1,v.2.2.2.2.1,v.2.2.2.2.2.1,v.2.2.2.2.2.2.1,v.2.2.2.2.2.2.2.1,v.2.2.2.2.2.2.2.2,nets.map W,lines.map W,(aQ n (sh++gq 0 xs)).map W,(sh++gq 0 xs).map shW,am.map W,cR n (fl++(gq 0 xs).map (·.1)),tx.map W,()))) ?_ ?_ f 0 _ ⟨by simpa [gq] using hsh,by simp [gq]⟩ (by omega) (by omega)
 ·rintro i _ again hi ⟨hok,rfl⟩ ih
  unfold kg
  dsimp only
  have hx:xs[i]? =some xs[i]:=aW hi
  have hxm:=hxs _ (W4 hi)
  generalize xs[i]=x at hx hxm
  have hMU:=Es
  have hbl:=nz_len (xs.take i) 0
  rw [Xc] at hbl
  have hsl:(sh++gq 0 (xs.take i)).length≤1999:=by rw [W5];omega
  have hnext:=nz_snoc (xs.take i) 0 x
  have htk:xs.take (i+1)=xs.take i++[x]:=by rw [XB,hx];rfl
  have hlt:(xs.take i).length=i:=by rw [Xc];omega
  rw [← htk,hlt,X4] at hnext
  rw [aM (by omega),bR,List.getElem?_map,hx,Yc,Option.bind_some]
  dsimp only
  have hin:i<n:=by omega
  by_cases h0:x=0
  ·rw [if_pos h0,WE] at hnext
   rw [show (x != 0)=false by simpa using h0,cond_false,aI (by omega) (by omega)]
   refine ih _ ⟨by rw [hnext];exact hok,by rw [hnext];rfl⟩
  ·rw [if_neg h0] at hnext
   have hb:=Lr v nets lines hn hok hsl am (cR n (fl++(gq 0 (xs.take i)).map (·.1))) tx hin hxm
   unfold Bx at hb
   rw [show (x != 0)=true by simpa using h0,cond_true,fF _ (by omega) (by omega),Option.bind_some]
   dsimp only
   rw [show (v.1,v.2.1,v.2.2.1,v.2.2.2.1,v.2.2.2.2.1,v.2.2.2.2.2.1,v.2.2.2.2.2.2.1,v.2.2.2.2.2.2.2.1,v.2.2.2.2.2.2.2.2)=v from rfl,hb,Option.bind_some]
   dsimp only
   rw [aR (by rw [qg];simp only [Wa,decide_eq_true_eq];omega),Wy,DL _ hin,Option.bind_some,aI (by omega) (by omega),DW]
   refine ih _ ⟨by rw [hnext, ← WD];exact hok.snoc hin hxm, ?_⟩
   rw [hnext]
   simp only [WD,Xd,Xf,Xg]
   rfl
 ·rintro _ again ⟨_,rfl⟩
  unfold kg
  dsimp only
  rw [aL (by omega),XE (XN _)]
end Go.Md
namespace Go.Md
open Go.Dn
theorem Ug {way:Int} {b:Nat} (hb:0<b):rnd way 0 b=0:=by
 unfold rnd CP
 simp only [Int.natAbs_zero,Nat.zero_div,Nat.zero_mod,Int.lt_irrefl,decide_false,Wk,Wn,Bool.false_and,Nat.lt_irrefl]
 have h1:¬ b≤2*0:=by omega
 have h2:¬ (b<2*0∨(2*0=b∧0 % 2=1)):=by omega
 simp [h1]
theorem RQ {way:Int} (hw:way≠5∧way≠6) (a:Int) {b:Nat} (hb:0<b):rnd way (-a) b= -rnd way a b:=by
 by_cases h0:a=0
 ·subst h0;rw [Int.neg_zero,Ug hb];rfl
 ·have hu:∀ p q r s,CP way p r s b=CP way q r s b:=by
   intro p q r s
   unfold CP
   simp [hw.1,hw.2]
  unfold rnd
  rw [Wu]
  dsimp only
  rw [hu (decide (-a<0)) (decide (a<0))]
  by_cases h:a<0
  ·rw [if_pos h,if_neg (by omega)];omega
  ·rw [if_neg h,if_pos (by omega)]
def oA (l:Br):Br:=l.map fun p=>(p.1, -p.2)
theorem Nb:∀ (l:Br) (k:Nat),atB (oA l) k= -atB l k
 | [],_=>rfl
 | p::l,k=>by
  have ih:=Nb l k
  unfold oA at ih ⊢
  simp only [Xf,atB,ih]
  split<;>omega
theorem KN (n:Nat) (l:Br):aQ n (oA l)=(aQ n l).map fun x=> -x:=by
 unfold aQ
 rw [List.map_map]
 exact Xe fun k _=>Nb l k
theorem Q9 (a b:Br):oA (a++b)=oA a++oA b:=Xd
theorem Qf (a:Br):(oA a).map (·.1)=a.map (·.1):=by unfold oA;rw [List.map_map];rfl
theorem UC (a:Br):(oA a).map (·.2)=(a.map (·.2)).map fun x=> -x:=by unfold oA;rw [List.map_map,List.map_map];rfl
theorem ED (l:List Int):bp (l.map fun x=> -x)=bp l:=by
 unfold bp
 rw [List.all_map]
 congr 1
 funext x
 simp [lN,Function.comp]
theorem sum_neg:∀ l:List Int,(l.map fun x=> -x).sum= -l.sum
 | []=>rfl
 | x::l=>by simp only [Xf,XA,sum_neg l];omega
def G8 (d:ak):ak:=(-d.1,d.2)
def gP (x:au):au:=(x.1,if x.1=true then x.2.1 else G8 x.2.1,x.2.2)
def ry (x:aq):aq:=(x.1,x.2.1,x.2.2.1,G8 x.2.2.2.1,x.2.2.2.2.1,x.2.2.2.2.2.1,x.2.2.2.2.2.2.1,x.2.2.2.2.2.2.2.1.map gP,x.2.2.2.2.2.2.2.2)
def kN (v:ai) (number:List UInt8) (day:Int):ai:=
 (number,v.2.1,day,vPl v,iK v,o4 v,av v,(bg v).map ry,(bU v).map gP)
def yD (v:ai):Prop:=iK v≠5∧iK v≠6
theorem TW {v:ai} (hw:yD v) (n:List UInt8) (dy:Int) {x:aq} (hx:uA (vPl v) (av v) x):sP (kN v n dy) (ry x)= -sP v x:=by
 unfold sP
 show rnd (iK v) (-x.2.2.2.1.1*x.2.2.2.2.2.1.1*10 ^ (vPl v).toNat) _=_
 rw [Ww,Ww]
 exact RQ hw _ (N1 (v:=v) hx).1
theorem Ld {way n:Int} (hw:way≠5∧way≠6) {d:ak} (hd:eP d):pS way (-n) d= -pS way n d:=by
 unfold pS
 rw [Ww]
 exact RQ hw _ (PZ d hd).1
theorem RB {way pl g:Int} (hw:way≠5∧way≠6) {x:au} (hx:CO pl x):gf way pl (-g) (gP x)= -gf way pl g x:=by
 unfold gf gP
 cases h:x.1 with
 | true=>simp only [Yn];exact Ld hw hx.dec
 | false=>simp only [Wd,Ym,G8,Ww]
theorem PK {way pl g:Int} (hw:way≠5∧way≠6):∀ (l:List au) (n:Int),(∀ x∈l,CO pl x)→sB (gf way pl (-g)) (l.map gP) (-n)=(sB (gf way pl g) l n).map fun x=> -x
 | [],n,_=>rfl
 | x::r,n,h=>by
  have hx:=RB (g:=g) hw (h x Xk)
  have ih:=PK (g:=g) hw r (n+gf way pl g x) fun y hy=>h y (Xj _ hy)
  simp only [Xf,sB,hx,Wu]
  rw [show -n+ -gf way pl g x= -(n+gf way pl g x) by omega,Wu]
  split
  ·exact ih
  ·rfl
theorem U7 {v:ai} (hw:yD v) (n:List UInt8) (dy:Int) {x:aq} (hx:uA (vPl v) (av v) x):wA (kN v n dy) (ry x)=(wA v x).map fun z=> -z:=by
 unfold wA
 rw [TW hw n dy hx,Wu]
 split
 ·exact PK hw _ _ fun y hy=>((l9 hx.ext).2 y hy).1
 ·rfl
theorem Mn {v:ai} (hw:yD v) (n:List UInt8) (dy:Int):∀ (l:List aq),(∀ x∈l,uA (vPl v) (av v) x)→dH (kN v n dy) (l.map ry)=(dH v l).map oA
 | [],_=>rfl
 | x::r,h=>by
  have ih:=Mn hw n dy r fun y hy=>h y (Xj _ hy)
  simp only [Xf,dH,U7 hw n dy (h x Xk),ih]
  cases wA v x with
  | none=>rfl
  | some z=>cases dH v r<;>rfl
theorem Uq (l:List Int) (k:Nat):(l.map fun x=> -x).getD k 0= -l.getD k 0:=by
 simp only [List.getD_eq_getElem?_getD,List.getElem?_map]
 cases l[k]? <;>simp
theorem Uw (v:ai) (n:List UInt8) (dy:Int) (lines:List Int) (x:au):sC (kN v n dy) (lines.map fun b=> -b) (gP x)= -sC v lines x:=by
 unfold sC
 show (match gV (·.1) x.2.2 (av v) with | some k=>_ | none=>_)=_
 cases gV (·.1) x.2.2 (av v) with
 | some k=>exact Uq ..
 | none=>exact sum_neg _
theorem PJ:∀ (l:List Int) (k:Nat),gq k (l.map fun x=> -x)=oA (gq k l)
 | [],_=>rfl
 | x::l,k=>by
  have ih:=PJ l (k+1)
  simp only [Xf,gq,ih]
  by_cases hx:x=0
  ·simp [hx]
  ·rw [if_neg hx,if_neg (by omega)];rfl
def Se (s:Int×Br×List Nat):Int×Br×List Nat:=(-s.1,oA s.2.1,s.2.2)
theorem O9 (l:List Int):((l.map fun b=> -b).all fun b=>b==0)=l.all fun b=>b==0:=by
 rw [List.all_map]
 congr 1
 funext x
 simp only [Function.comp]
 by_cases h:x=0
 ·subst h;rfl
 ·rw [show (x==0)=false by simpa using h,show (-x==0)=false by simp;omega]
theorem Sk (l:List Int):((l.map fun b=> -b).any fun b=>decide (MW<b.natAbs))=l.any fun b=>decide (MW<b.natAbs):=by
 rw [List.any_map]
 congr 1
 funext x
 simp [Function.comp]
theorem Rd (l:List Int):(l.map fun b=> -b).map Int.natAbs=l.map Int.natAbs:=by
 rw [List.map_map]
 apply Xe
 intro x _
 simp [Function.comp]
theorem AZ:∀ {l:List Int},(l.all fun b=>b==0)=false→0<(l.map Int.natAbs).sum
 | [],h=>by simp at h
 | x::l,h=>by
  by_cases hx:x=0
  ·subst hx
   have:=AZ (l:=l) (by simpa using h)
   simp only [Xf,XA];omega
  ·simp only [Xf,XA];omega
def Sr:Int ⊕ (Int×Br×List Nat)→Int ⊕ (Int×Br×List Nat)
 | .inl f=> .inl f
 | .inr s=> .inr (Se s)
theorem Uv (d:Int):lN (-d)=lN d:=by simp [lN]
theorem Si (o:Option Nat) (d:Int) (lines:List Int):pM o (-d) (lines.map fun b=> -b)=Sr (pM o d lines):=by
 unfold pM
 rw [Uv]
 cases lN d with
 | false=>rfl
 | true=>
  cases o with
  | some k=>rfl
  | none=>
   simp only [cond_true]
   rw [O9,Sk,Rd]
   cases h1:(lines.all fun b=>b==0) with
   | true=>
    simp only [cond_true,Sr,Se,oA,Xf,Xg]
    by_cases hd:d=0
    ·subst hd;rfl
    ·rw [show (d==0)=false by simpa using hd,show (-d==0)=false by simp;omega]
   | false=>
    cases h2:(lines.any fun b=>decide (MW<b.natAbs)) with
    | true=>rfl
    | false=>rw [cond_false,cond_false,Ri (AZ h1),PJ,Qf];rfl
theorem Tl {v:ai} (hw:yD v) (n:List UInt8) (dy:Int) (lines:List Int) {x:au} (hx:CO (vPl v) x):
 qT (kN v n dy) (lines.map fun b=> -b) (gP x)=Sr (qT v lines x):=by
 unfold qT
 rw [Uw]
 show pM (gV (·.1) x.2.2 (av v)) (gf (iK v) (vPl v) (-sC v lines x) (gP x)) _=_
 rw [RB hw hx,Si]
def Na (s:ESt):ESt:=(oA s.1,s.2.1,s.2.2.map fun x=> -x)
def Vk:Int ⊕ ESt→Int ⊕ ESt
 | .inl f=> .inl f
 | .inr s=> .inr (Na s)
theorem LV {v:ai} (hw:yD v) (n:List UInt8) (dy:Int) (lines:List Int):∀ (l:List au) (s:ESt),(∀ x∈l,CO (vPl v) x)→
 fI (kN v n dy) (lines.map fun b=> -b) (l.map gP) (Na s)=Vk (fI v lines l s)
 | [],s,_=>rfl
 | x::r,s,h=>by
  simp only [Xf,fI]
  rw [Tl hw n dy lines (h x Xk)]
  cases qT v lines x with
  | inl f=>rfl
  | inr t=>
   simp only [Sr]
   rw [show (Na s).1++(Se t).2.1=oA (s.1++t.2.1) from (Q9 ..).symm]
   rw [show (av (kN v n dy)).length=(av v).length from rfl,KN,ED]
   cases bp (aQ (av v).length (s.1++t.2.1)) with
   | false=>rfl
   | true=>
    simp only [cond_true]
    have ih:=LV hw n dy lines r (s.1++t.2.1,s.2.1++t.2.2,s.2.2++[t.1]) fun y hy=>h y (Xj _ hy)
    rw [← ih]
    simp only [Na,Se,Xd,Xf,Xg]
theorem Ql {way:Int} (hw:way≠5∧way≠6) {pc:ak} (hp:eP pc) (k:Nat):∀ l:Br,tE way pc k (oA l)= -tE way pc k l
 | []=>rfl
 | p::l=>by
  have ih:=Ql hw hp k l
  unfold oA at ih ⊢
  simp only [Xf,tE,ih,Ld hw hp]
  split<;>omega
def Sx (s:ShZ):ShZ:=⟨s.nets.map fun x=> -x,oA s.br,s.fl,s.am.map fun x=> -x,s.taxes.map fun x=> -x⟩
theorem Nk {v:ai} (hv:k8 v) (k:Nat):eP (u5 v k):=by
 unfold u5
 rw [List.getD_eq_getElem?_getD]
 cases h:(av v)[k]? with
 | none=>exact ⟨by simp,by simp,by simp⟩
 | some r=>
  have:=hv.rates r (List.mem_of_getElem? h)
  unfold inR at this
  rw [decide_eq_true_eq] at this
  exact this.1
theorem Tx {v:ai} (hw:yD v) (hv:k8 v) (n:List UInt8) (dy:Int) (l:Br):nE (kN v n dy) (oA l)=(nE v l).map fun x=> -x:=by
 unfold nE
 rw [List.map_map]
 apply Xe
 intro k _
 show Qv (kN v n dy) (oA l) k= -Qv v l k
 have hp:=Nk hv k
 unfold Qv
 show (if o4 v=true then tE (iK v) (u5 v k) k _ else pS (iK v) _ (u5 v k))=_
 split
 ·exact Ql hw hp k l
 ·rw [Nb];exact Ld hw hp
def PT:Int ⊕ ShZ→Int ⊕ ShZ
 | .inl f=> .inl f
 | .inr s=> .inr (Sx s)
theorem S8 {v:ai} (hw:yD v) (hv:k8 v) (n:List UInt8) (dy:Int):xb (kN v n dy)=PT (xb v):=by
 unfold xb
 rw [show bg (kN v n dy)=(bg v).map ry from rfl,show bU (kN v n dy)=(bU v).map gP from rfl,show (av (kN v n dy))=av v from rfl,Mn hw n dy _ hv.lines]
 cases dH v (bg v) with
 | none=>rfl
 | some lb=>
  simp only [Yc]
  rw [KN,Qf,ED]
  cases bp (aQ (av v).length lb) with
  | false=>rfl
  | true=>
   simp only [cond_true]
   have he:=LV hw n dy (aQ (av v).length lb) (bU v) (lb,lb.map (·.1),[]) fun x hx=>((l9 hv.ext).2 x hx).1
   rw [show Na (lb,lb.map (·.1),[])=(oA lb,lb.map (·.1),[]) from rfl] at he
   rw [he]
   cases fI v (aQ (av v).length lb) (bU v) (lb,lb.map (·.1),[]) with
   | inl f=>rfl
   | inr t=>
    simp only [Vk]
    rw [show (Na t).1=oA t.1 from rfl,Tx hw hv,ED,UC]
    cases bp (nE v t.1)<;>rfl
theorem Qn (s:ShZ):ld (Sx s)=(ld s).map fun x=> -x:=by
 simp only [ld,Sx,sum_neg,Xf,Xg]
 congr 3
 ·omega
 ·congr 2;omega
theorem RY {v:ai} (hw:yD v) (hv:k8 v) (n:List UInt8) (dy:Int):tq (kN v n dy)=PT (tq v):=by
 unfold tq
 rw [S8 hw hv]
 cases xb v with
 | inl f=>rfl
 | inr s=>
  simp only [PT]
  rw [Qn,ED]
  cases bp (ld s)<;>rfl
end Go.Md
namespace Go.Md
open Go.Dn
theorem PC {n k:Nat} {fl:List Nat} (h:fl.contains k=true):cR n (fl++[k])=cR n fl:=by
 unfold cR
 apply Xe
 intro i _
 by_cases e:i=k
 ·subst e;rw [h];simp
 ·simp [e]
theorem TX {n k:Nat} {fl:List Nat} (hk:k<n) (h:fl.contains k=false):(cR n fl).set k false=cR n fl:=by
 apply WO
 intro i
 by_cases e:k=i
 ·subst e
  rw [W1 (by rw [qg];exact hk),DL _ hk,h]
 ·rw [W0 e]
theorem Ry (lines:List Int):((lines.map Int.natAbs).any fun z=>decide (1000000000<z))=lines.any fun b=>decide (MW<b.natAbs):=by
 rw [List.any_map];rfl
theorem qh {d:Int}:lN d=true↔(d.natAbs:Int)≤MU:=by unfold lN;rw [decide_eq_true_eq]
theorem T0 {v:ai} (hv:k8 v) (nets am tx:List Int) {n:Nat} (hn0:0<n) (hn:n≤20) {lines:List Int} (hll:lines.length=n) (hal:bp lines=true) {sh:Br} (hsh:iw n sh) (hl:sh.length≤1900) (fl:List Nat) {d:Int} (hd:(d.natAbs:Int)≤MU):
 (∃ p g,pM none d lines= .inr (d,p,g)∧iw n (sh++p)∧p.length≤20∧gD (Bx v nets lines (aQ n sh) sh am (cR n fl) tx) (W d)=some (0,Bx v nets lines (aQ n (sh++p)) (sh++p) am (cR n (fl++g)) tx,()))∨
 (pM none d lines= .inl 2∧∃ b,gD (Bx v nets lines (aQ n sh) sh am (cR n fl) tx) (W d)=some (2,b,())):=by
 have hpl:=hv.pl
 have hMU:=Es
 have hb:gD (Bx v nets lines (aQ n sh) sh am (cR n fl) tx) (W d)=RE (wI (lines.map Int.natAbs), !(lines.all fun b=>b==0),(W d).1,(W d).2,v.1,v.2.1,v.2.2.1,v.2.2.2.1,v.2.2.2.2.1,v.2.2.2.2.2.1,v.2.2.2.2.2.2.1,v.2.2.2.2.2.2.2.1,v.2.2.2.2.2.2.2.2,lines.map W,nets.map W,(aQ n sh).map W,sh.map shW,am.map W,cR n fl,tx.map W,()):=by
  unfold gD Bx
  dsimp only
  rw [W7,Rr (v:=v) (by omega) hal (W d) (lines.map W) (nets.map W) ((aQ n sh).map W) (sh.map shW) (am.map W) (cR n fl) (tx.map W) _ ?_,aK]
  ·rfl
  ·simp;omega
 rw [hb]
 have him:lN d=true:=qh.2 hd
 unfold RE pM
 rw [him,cond_true]
 dsimp only
 cases hz:(lines.all fun b=>b==0) with
 | true=>
  rw [Bool.not_true,Wk,cond_true,cond_true]
  refine .inl ⟨[(0,d)],bif d==0 then [] else [0],rfl,hsh.snoc hn0 hd,by simp, ?_⟩
  have hbr:fH (Bx v nets lines (aQ n sh) sh am (cR n fl) tx) 0 (W d)=some (Bx v nets lines (aQ n (sh++[(0,d)])) (sh++[(0,d)]) am (cR n fl) tx,()):=Lr v nets lines hn hsh (by omega) am (cR n fl) tx (k:=0) hn0 hd
  unfold Bx at hbr ⊢
  rw [show (v.1,v.2.1,v.2.2.1,v.2.2.2.1,v.2.2.2.2.1,v.2.2.2.2.2.1,v.2.2.2.2.2.2.1,v.2.2.2.2.2.2.2.1,v.2.2.2.2.2.2.2.2)=v from rfl,show ((W d).1,(W d).2)=W d from rfl,hbr,Option.bind_some]
  dsimp only
  have hg0:(cR n fl)[0]? =some (fl.contains 0):=DL _ hn0
  rw [aR (by rw [qg];simp only [Wa,decide_eq_true_eq];omega),hg0,Option.bind_some]
  cases hc:fl.contains 0 with
  | true=>
   rw [cond_true,aR (by rw [qg];simp only [Wa,decide_eq_true_eq];omega),Option.bind_some,DW,PC hc]
   cases hd0:d==0 with
   | true=>rw [cond_true,WE]
   | false=>rw [cond_false,PC hc]
  | false=>
   rw [cond_false,qH,Option.bind_some,aR (by rw [qg];simp only [Wa,decide_eq_true_eq];omega),Option.bind_some]
   dsimp only
   by_cases hd0:d=0
   ·subst hd0
    rw [show ((Int.sign 0) != 0)=false from rfl,TX hn0 hc,show ((0:Int)==0)=true from rfl,cond_true,WE]
   ·have hs:(d.sign != 0)=true:=by
     have:=mt Int.sign_eq_zero_iff_zero.1 hd0
     simpa using this
    rw [hs,DW,show (d==0)=false by simpa using hd0,cond_false]
 | false=>
  rw [Wk,Bool.not_true,cond_false,cond_false,Mg _ (by simp;omega),Option.bind_some,Ry]
  dsimp only
  cases hw:(lines.any fun b=>decide (MW<b.natAbs)) with
  | true=>rw [cond_true,cond_true];exact .inr ⟨rfl,_,rfl⟩
  | false=>
   rw [cond_false,cond_false,show ((W d).1,(W d).2)=W d from rfl,Gv,Option.bind_some,if_pos (by omega)]
   dsimp only
   have hws:A1 (lines.map Int.natAbs):=by
    refine ⟨by simp;omega,fun w hwm=> ?_,AZ hz⟩
    have:=hw
    rw [← Ry,WB] at this
    have h1:=this w hwm
    simpa using h1
   rw [Ln d v.2.2.2.1 (by omega) (by omega) _ hws,Option.bind_some]
   dsimp only
   rw [show ((0:Int) != 0)=false from rfl,cond_false]
   have hxl:(eU d (lines.map Int.natAbs)).length=n:=by rw [KU,W7,hll]
   have hxs:∀ x∈eU d (lines.map Int.natAbs),(x.natAbs:Int)≤MU:=fun x hx=>by
    have:=MD (n:=d) hws.pos hx
    omega
   have hmem:=LB (eU d (lines.map Int.natAbs)) 0
   have hlenz:(gq 0 (eU d (lines.map Int.natAbs))).length≤20:=by
    have nz_len:∀ (l:List Int) (k:Nat),(gq k l).length≤l.length:=by
     intro l
     induction l with
     | nil=>intro k;simp [gq]
     | cons y l ih=>
      intro k
      have:=ih (k+1)
      simp only [gq]
      split<;>simp<;>omega
    have:=nz_len (eU d (lines.map Int.natAbs)) 0
    omega
   refine .inl ⟨_,_,rfl,⟨fun p hp=> ?_,fun p hp=> ?_⟩,hlenz, ?_⟩
   ·rcases Xh.1 hp with hp | hp
    ·exact hsh.ix p hp
    ·have:=(hmem p hp).2.1;omega
   ·rcases Xh.1 hp with hp | hp
    ·exact hsh.am p hp
    ·exact hxs _ (hmem p hp).2.2.1
   ·rw [W7,R6 (v:=v) (nets:=nets) (lines:=lines) (am:=am) (tx:=tx) hn hsh hl fl (pl:=v.2.2.2.1) hxl hxs _ ?_,aK]
    ·rfl
    ·simp;omega
theorem PU {v:ai} (hv:k8 v) (nets:List Int) (am tx:List Int) {n:Nat} (hn0:0<n) (hn:n≤20) {lines:List Int} (hll:lines.length=n) (hal:bp lines=true) {sh:Br} (hsh:iw n sh) (hl:sh.length≤1900) (hal2:am.length≤1000) (fl:List Nat)
 (o:Option Nat) (k:Nat) (ho:∀ k',o=some k'→k=k'∧k'<n) (d:Int):
 (∃ p g,pM o d lines= .inr (d,p,g)∧iw n (sh++p)∧p.length≤20∧Bl ((k:Int),o.isSome,(W d).1,(W d).2,v.1,v.2.1,v.2.2.1,v.2.2.2.1,v.2.2.2.2.1,v.2.2.2.2.2.1,v.2.2.2.2.2.2.1,v.2.2.2.2.2.2.2.1,v.2.2.2.2.2.2.2.2,lines.map W,nets.map W,(aQ n sh).map W,sh.map shW,am.map W,cR n fl,tx.map W,())=
   some (bif bp (aQ n (sh++p)) then 0 else 1,Bx v nets lines (aQ n (sh++p)) (sh++p) (am++[d]) (cR n (fl++g)) tx,()))∨
 (∃ f b,f≠0∧pM o d lines= .inl f∧Bl ((k:Int),o.isSome,(W d).1,(W d).2,v.1,v.2.1,v.2.2.1,v.2.2.2.1,v.2.2.2.2.1,v.2.2.2.2.2.1,v.2.2.2.2.2.2.1,v.2.2.2.2.2.2.2.1,v.2.2.2.2.2.2.2.2,lines.map W,nets.map W,(aQ n sh).map W,sh.map shW,am.map W,cR n fl,tx.map W,())=some (f,b,())):=by
 unfold Bl
 dsimp only
 rw [show ((W d).1,(W d).2)=W d from rfl,A8,Option.bind_some]
 dsimp only
 cases him:lN d with
 | false=>
  refine .inr ⟨1,_,by omega, ?_,rfl⟩
  unfold pM;rw [him];rfl
 | true=>
  have hd:=qh.1 him
  rw [Bool.not_true,cond_false,aR (mZ (by simp;omega) (by simp;omega))]
  rw [show (v.1,v.2.1,v.2.2.1,v.2.2.2.1,v.2.2.2.2.1,v.2.2.2.2.2.1,v.2.2.2.2.2.2.1,v.2.2.2.2.2.2.2.1,v.2.2.2.2.2.2.2.2)=v from rfl,show am.map W++[W d]=(am++[d]).map W by simp]
  cases o with
  | some k'=>
   obtain ⟨rfl,hk⟩:=ho k' rfl
   have hb:=Lr v nets lines hn hsh (by omega) (am++[d]) (cR n fl) tx hk hd
   unfold Bx at hb
   rw [Ya,cond_true,hb,Option.bind_some]
   dsimp only
   rw [aR (by rw [qg];simp only [Wa,decide_eq_true_eq];omega),Wy,DL _ hk,Option.bind_some,HX _ (by rw [gC];omega),Option.bind_some,DW]
   dsimp only
   refine .inl ⟨[(k,d)],[k],by unfold pM;rw [him];rfl,hsh.snoc hk hd,by simp, ?_⟩
   unfold Bx
   cases bp (aQ n (sh++[(k,d)]))<;>rfl
  | none=>
   rw [Option.isSome_none,cond_false]
   rcases T0 hv nets (am++[d]) tx hn0 hn hll hal hsh hl fl hd with ⟨p,g,h1,h2,h3,h4⟩ | ⟨h1,b,h4⟩
   ·unfold Bx at h4
    rw [h4,Option.bind_some]
    dsimp only
    rw [show ((0:Int) != 0)=false from rfl,cond_false,HX _ (by rw [gC];omega),Option.bind_some]
    dsimp only
    refine .inl ⟨p,g,h1,h2,h3, ?_⟩
    unfold Bx
    cases bp (aQ n (sh++p))<;>rfl
   ·unfold Bx at h4
    rw [h4,Option.bind_some]
    exact .inr ⟨2,_,by omega,h1,rfl⟩
end Go.Md
namespace Go.Md
open Go.Dn
theorem Pz {v:ai} (hv:k8 v) {x:au} (hx:CO (vPl v) x) (nb:Bool) (k:Int) {g:Int} (hg:Le 40 g) (L N B:List aa) (S:List aD) (A:List aa) (H:List Bool) (T:List aa):
 NW (k,nb,x.1,x.2.1.1,x.2.1.2,x.2.2,(W g).1,(W g).2,v.1,v.2.1,v.2.2.1,v.2.2.2.1,v.2.2.2.2.1,v.2.2.2.2.2.1,v.2.2.2.2.2.2.1,v.2.2.2.2.2.2.2.1,v.2.2.2.2.2.2.2.2,L,N,B,S,A,H,T,())=
  Bl (k,nb,(W (gf (iK v) (vPl v) g x)).1,(W (gf (iK v) (vPl v) g x)).2,v.1,v.2.1,v.2.2.1,v.2.2.2.1,v.2.2.2.2.1,v.2.2.2.2.2.1,v.2.2.2.2.2.2.1,v.2.2.2.2.2.2.2.1,v.2.2.2.2.2.2.2.2,L,N,B,S,A,H,T,()):=by
 have hpl:=hv.pl
 have hd1:=hx.dec.1;have hd2:=hx.dec.2
 unfold NW
 dsimp only
 have hmx:(if x.2.1.2>v.2.2.2.1 then x.2.1.2 else v.2.2.2.1)=max v.2.2.2.1 x.2.1.2:=by omega
 rw [hmx,show (x.2.1.1,x.2.1.2)=x.2.1 from rfl,Dy _ _ (by omega) (by omega) (by omega) (by omega) (by omega),Option.bind_some]
 dsimp only
 cases hp:x.1 with
 | true=>
  rw [cond_true,show (v.1,v.2.1,v.2.2.1,v.2.2.2.1,v.2.2.2.2.1,v.2.2.2.2.2.1,v.2.2.2.2.2.2.1,v.2.2.2.2.2.2.2.1,v.2.2.2.2.2.2.2.2)=v from rfl,show ((W g).1,(W g).2)=W g from rfl,zi v g _ hx.dec (hg.mono (by omega)),Option.bind_some,aK]
  unfold gf
  rw [hp,if_pos rfl]
  rfl
 | false=>
  have hpp:x.2.1.2≤v.2.2.2.1:=hx.place hp
  rw [cond_false,aK,show max v.2.2.2.1 x.2.1.2=v.2.2.2.1 by omega]
  unfold gf
  rw [hp,if_neg (by simp)]
  rfl
theorem Gj {l:List Int} {i:Nat} {x:Int} (h:l[i]? =some x):(l.take (i+1)).sum=(l.take i).sum+x:=by
 rw [XB,h,Xz];simp
theorem yz {l:List Int} (hl:l.length≤1000) (h:bp l=true):Le 19 l.sum:=by
 have key:∀ l:List Int,bp l=true→l.sum.natAbs≤l.length*1000000000000000:=by
  intro l
  induction l with
  | nil=>intro _;simp
  | cons x l ih=>
   intro h
   unfold bp at h ih
   simp only [Wz,Wa] at h
   have h1:=ih h.2
   have h2:=qh.1 h.1
   have:=Es
   simp only [XA,W6,XH,X0]
   omega
 have h1:=key l h
 have h2:l.length*1000000000000000≤1000*1000000000000000:=XY _ hl
 exact Le.int (by omega) (by omega)
theorem MN {l:List Int} (h:bp l=true) (i:Nat):bp (l.take i)=true:=by
 unfold bp at*
 rw [WA] at*
 exact fun x hx=>h x (Xp hx)
theorem TD {v:ai} (x:au) (k:Int) {lines:List Int} (hl:lines.length≤1000) (hal:bp lines=true) (L N B:List aa) (S:List aD) (A:List aa) (H:List Bool) (T:List aa) (f:Nat) (hf:lines.length<f):
 iter f ((k,false,lines.map W,(lines.length:Int),(0:Int),x.1,x.2.1.1,x.2.1.2,x.2.2,(W 0).1,(W 0).2,v.1,v.2.1,v.2.2.1,v.2.2.2.1,v.2.2.2.2.1,v.2.2.2.2.2.1,v.2.2.2.2.2.2.1,v.2.2.2.2.2.2.2.1,v.2.2.2.2.2.2.2.2,L,N,B,S,A,H,T,()):lE) oP=
  some (Sum.inr (k,false,x.1,x.2.1.1,x.2.1.2,x.2.2,(W lines.sum).1,(W lines.sum).2,v.1,v.2.1,v.2.2.1,v.2.2.2.1,v.2.2.2.2.1,v.2.2.2.2.2.1,v.2.2.2.2.2.2.1,v.2.2.2.2.2.2.2.1,v.2.2.2.2.2.2.2.2,L,N,B,S,A,H,T,())):=by
 refine bQ (Inv:=fun i X=>X=((k,false,lines.map W,(lines.length:Int),(i:Int),x.1,x.2.1.1,x.2.1.2,x.2.2,(W (lines.take i).sum).1,(W (lines.take i).sum).2,v.1,v.2.1,v.2.2.1,v.2.2.2.1,v.2.2.2.2.1,v.2.2.2.2.2.1,v.2.2.2.2.2.2.1,v.2.2.2.2.2.2.2.1,v.2.2.2.2.2.2.2.2,L,N,B,S,A,H,T,()):lE)) lines.length
  (fun r=>r=some (Sum.inr (k,false,x.1,x.2.1.1,x.2.1.2,x.2.2,(W lines.sum).1,(W lines.sum).2,v.1,v.2.1,v.2.2.1,v.2.2.2.1,v.2.2.2.2.1,v.2.2.2.2.2.1,v.2.2.2.2.2.2.1,v.2.2.2.2.2.2.2.1,v.2.2.2.2.2.2.2.2,L,N,B,S,A,H,T,()))) ?_ ?_ f 0 _ rfl (by omega) (by omega)
 ·rintro i _ again hi rfl ih
  unfold oP
  dsimp only
  have hz:lines[i]? =some lines[i]:=aW hi
  have hzm:lN lines[i]=true:=WA.1 hal _ (W4 hi)
  generalize lines[i]=z at hz hzm
  have h1:=yz (l:=lines.take i) (by rw [Xc];omega) (MN hal i)
  have h2:=CD (qh.1 hzm)
  rw [aM (by omega),bR,List.getElem?_map,hz,Yc,Option.bind_some,show ((W (lines.take i).sum).1,(W (lines.take i).sum).2)=W (lines.take i).sum from rfl,dn _ _ (h1.w (by omega)) (h2.w (by omega)),Option.bind_some,aI (by omega) (by omega), ← Gj hz]
  exact ih _ rfl
 ·rintro _ again rfl
  unfold oP
  dsimp only
  rw [aL (by omega),XE (XN _)]
theorem Un {v:ai} (hv:k8 v) (nets am tx:List Int) {lines:List Int} (hll:lines.length=(av v).length) (hal:bp lines=true) {sh:Br} (hsh:iw (av v).length sh) (hl:sh.length≤1900) (hal2:am.length≤1000) (fl:List Nat) {x:au} (hx:CO (vPl v) x):
 (∃ d p g,qT v lines x= .inr (d,p,g)∧iw (av v).length (sh++p)∧p.length≤20∧lS (Bx v nets lines (aQ (av v).length sh) sh am (cR (av v).length fl) tx) x=
   some (bif bp (aQ (av v).length (sh++p)) then 0 else 1,Bx v nets lines (aQ (av v).length (sh++p)) (sh++p) (am++[d]) (cR (av v).length (fl++g)) tx,()))∨
 (∃ f b,f≠0∧qT v lines x= .inl f∧lS (Bx v nets lines (aQ (av v).length sh) sh am (cR (av v).length fl) tx) x=some (f,b,())):=by
 have hrn:0<(av v).length∧(av v).length≤20:=hv.rn
 obtain ⟨k,hk1,hk2⟩:=AM (av v) x.2.2 (by omega) hv.asc
 have hg:Le 40 (sC v lines x):=by
  unfold sC
  cases ho:gV (·.1) x.2.2 (av v) with
  | some k'=>
   dsimp only
   rw [List.getD_eq_getElem?_getD]
   cases hz:lines[k']? with
   | none=>exact (show Le 40 0 by unfold Le;simp)
   | some z=>exact (CD (qh.1 (WA.1 hal _ (List.mem_of_getElem? hz)))).mono (by omega)
  | none=>exact (yz (by omega) hal).mono (by omega)
 have hred:lS (Bx v nets lines (aQ (av v).length sh) sh am (cR (av v).length fl) tx) x=Bl ((k:Int),(gV (·.1) x.2.2 (av v)).isSome,(W (gf (iK v) (vPl v) (sC v lines x) x)).1,(W (gf (iK v) (vPl v) (sC v lines x) x)).2,v.1,v.2.1,v.2.2.1,v.2.2.2.1,v.2.2.2.2.1,v.2.2.2.2.2.1,v.2.2.2.2.2.2.1,v.2.2.2.2.2.2.2.1,v.2.2.2.2.2.2.2.2,lines.map W,nets.map W,(aQ (av v).length sh).map W,sh.map shW,am.map W,cR (av v).length fl,tx.map W,()):=by
  rw [← Pz hv hx]
  ·unfold lS Bx
   dsimp only
   rw [fF 0 (by omega) (by omega),Option.bind_some]
   have hk1':qb v.2.2.2.2.2.2.1 x.2.2=some ((k:Int),(gV (·.1) x.2.2 (av v)).isSome,()):=hk1
   rw [hk1',Option.bind_some]
   dsimp only
   cases ho:gV (·.1) x.2.2 (av v) with
   | some k'=>
    obtain rfl:=hk2 k' ho
    obtain ⟨rt,hrt,_⟩:=pN ho
    have hkl:k<lines.length:=by rw [hll];exact (List.getElem?_eq_some_iff.1 hrt).1
    have hz:lines[k]? =some lines[k]:=aW hkl
    rw [Ya,cond_true,bR,List.getElem?_map,hz,Yc,Option.bind_some,aK]
    have hbase:sC v lines x=lines[k]:=by
     unfold sC;rw [ho];dsimp only;rw [List.getD_eq_getElem?_getD,hz];rfl
    rw [hbase]
    rfl
   | none=>
    have hbase:sC v lines x=lines.sum:=by
     unfold sC;rw [ho]
    rw [hbase]
    rw [Option.isSome_none,cond_false,W7,TD (v:=v) x (k:Int) (by omega) hal (lines.map W) (nets.map W) ((aQ (av v).length sh).map W) (sh.map shW) (am.map W) (cR (av v).length fl) (tx.map W) _ ?_,aK,aK]
    ·rfl
    ·simp;omega
  ·exact hg
 rw [hred]
 unfold qT
 rcases PU hv nets am tx hrn.1 hrn.2 hll hal hsh hl hal2 fl (gV (·.1) x.2.2 (av v)) k (fun k' h=>⟨hk2 k' h,by obtain ⟨rt,hrt,_⟩:=pN h;exact (List.getElem?_eq_some_iff.1 hrt).1⟩) (gf (iK v) (vPl v) (sC v lines x) x) with ⟨p,g,h1,h2,h3,h4⟩ | ⟨f,b,h1,h2,h3⟩
 ·exact .inl ⟨_,p,g,h1,h2,h3,h4⟩
 ·exact .inr ⟨f,b,h1,h2,h3⟩
end Go.Md
namespace Go.Md
open Go.Dn
theorem Vm {α:Type} {b:Bool} (h:b=true) (x y:α):(bif b then x else y)=x:=by rw [h];rfl
theorem VC {α:Type} {b:Bool} (h:b=false) (x y:α):(bif b then x else y)=y:=by rw [h];rfl
theorem U8 {α:Type} {b:Bool} (h:b=true) (x y:α):(bif !b then x else y)=y:=by rw [h];rfl
theorem Vc {α:Type} {b:Bool} (h:b=false) (x y:α):(bif !b then x else y)=x:=by rw [h];rfl
def K35:Nat:=10 ^ 35
theorem Le.k35 {z:Int} (h:Le 35 z):z.natAbs≤K35:=h
theorem Vh {z:Int} {c:Nat} (hc:c≤1000) (h:z.natAbs≤c*K35):Le 38 z:=by
 unfold Le
 have h1:c*K35≤1000*K35:=XY _ hc
 have h2:1000*K35=10 ^ 38:=by unfold K35;decide
 omega
theorem Fg (way:Int) (pc:ak) (k:Nat):∀ (a b:Br),tE way pc k (a++b)=tE way pc k a+tE way pc k b
 | [],b=>by simp [tE]
 | p::a,b=>by simp only [WG,tE,Fg way pc k a b];omega
theorem RC {way:Int} {pc:ak} (hp:eP pc) (k:Nat):∀ {b:Br},(∀ p∈b,(p.2.natAbs:Int)≤MU)→(tE way pc k b).natAbs≤b.length*K35
 | [],_=>by simp [tE]
 | p::b,h=>by
  have h1:=RC (way:=way) hp k (b:=b) fun q hq=>h q (Xj _ hq)
  have h2:(pS way p.2 pc).natAbs≤K35:=(NO (CD (h p Xk)) hp:Le 35 _).k35
  simp only [tE,W6,XH,X0]
  split<;>omega
theorem Qm {v:ai} {k:Nat} {r:az} (h:(av v)[k]? =some r):u5 v k=r.2:=by
 unfold u5;rw [List.getD_eq_getElem?_getD,h];rfl
theorem TY {v:ai} (hv:k8 v) {br:Br} (hbr:iw (av v).length br) (hl:br.length≤1000) (L N:List aa) (S:List aD) (A:List aa) (H:List Bool) (f:Nat) (hf:(av v).length<f):
 iter f ((av v,((av v).length:Int),(0:Int),v.1,v.2.1,v.2.2.1,v.2.2.2.1,v.2.2.2.2.1,v.2.2.2.2.2.1,v.2.2.2.2.2.2.1,v.2.2.2.2.2.2.2.1,v.2.2.2.2.2.2.2.2,L,List.replicate (Int.toNat ((av v).length:Int)) ((false,[]):aa),N,(aQ (av v).length br).map W,S,A,H,()):nC) qA=
  some (Sum.inr (v.1,v.2.1,v.2.2.1,v.2.2.2.1,v.2.2.2.2.1,v.2.2.2.2.2.1,v.2.2.2.2.2.2.1,v.2.2.2.2.2.2.2.1,v.2.2.2.2.2.2.2.2,L,((List.range (av v).length).map fun k=>if o4 v=true then 0 else pS (iK v) (atB br k) (u5 v k)).map W,N,(aQ (av v).length br).map W,S,A,H,())):=by
 have hrn:0<(av v).length∧(av v).length≤20:=hv.rn
 refine bQ (Inv:=fun i X=>X=((av v,((av v).length:Int),(i:Int),v.1,v.2.1,v.2.2.1,v.2.2.2.1,v.2.2.2.2.1,v.2.2.2.2.2.1,v.2.2.2.2.2.2.1,v.2.2.2.2.2.2.2.1,v.2.2.2.2.2.2.2.2,L,((List.range (av v).length).map fun k=>if o4 v=true∨i≤k then 0 else pS (iK v) (atB br k) (u5 v k)).map W,N,(aQ (av v).length br).map W,S,A,H,()):nC)) (av v).length
  (fun r=>r=some (Sum.inr (v.1,v.2.1,v.2.2.1,v.2.2.2.1,v.2.2.2.2.1,v.2.2.2.2.2.1,v.2.2.2.2.2.2.1,v.2.2.2.2.2.2.2.1,v.2.2.2.2.2.2.2.2,L,((List.range (av v).length).map fun k=>if o4 v=true then 0 else pS (iK v) (atB br k) (u5 v k)).map W,N,(aQ (av v).length br).map W,S,A,H,()))) ?_ ?_ f 0 _ ?_ (by omega) (by omega)
 ·rintro i _ again hi rfl ih
  unfold qA
  dsimp only
  have hr:(av v)[i]? =some (av v)[i]:=aW hi
  have hrm:=W4 hi
  generalize (av v)[i]=r at hr hrm
  have hpc:=Qm hr
  have hpo:=Nk hv i
  rw [aM (by omega),bR,hr,Option.bind_some]
  rcases Bool.eq_false_or_eq_true v.2.2.2.2.2.1 with hper | hper
  ·rw [U8 hper,aI (by omega) (by omega)]
   refine ih _ ?_
   have hp:o4 v=true:=hper
   simp only [hp,true_or,Yn]
   rfl
  ·have hp:o4 v=false:=hper
   have hbm:((aQ (av v).length br).map W)[i]? =some (W (atB br i)):=by rw [List.getElem?_map,tc _ hi];rfl
   have htm:∃ y,(((List.range (av v).length).map fun k=>if o4 v=true∨i≤k then 0 else pS (iK v) (atB br k) (u5 v k)).map W)[i]? =some y:=⟨_,aW (by simp;omega)⟩
   obtain ⟨y0,hy0⟩:=htm
   rw [Vc hper,aR (by rw [W7,gC];simp only [Wa,decide_eq_true_eq];omega),Wy,hbm,Option.bind_some]
   rw [show (v.1,v.2.1,v.2.2.1,v.2.2.2.1,v.2.2.2.2.1,v.2.2.2.2.2.1,v.2.2.2.2.2.2.1,v.2.2.2.2.2.2.2.1,v.2.2.2.2.2.2.2.2)=v from rfl, ← hpc,zi v _ _ hpo ((Qr hbr (by omega) i).mono (by omega)),Option.bind_some]
   dsimp only
   rw [aR (by simp only [W7,Xa,Wa,decide_eq_true_eq];omega),hy0,Option.bind_some,aI (by omega) (by omega), ← List.map_set]
   refine ih _ ?_
   congr 13
   refine congrArg (fun z:List Int=>(z.map W,_)) ?_
   refine B9 _ _ _ _ _ (fun j hj hji=> ?_) ?_
   ·simp only [hp,Wd,Yl]
    by_cases h1:i≤j
    ·rw [if_pos h1,if_pos (by omega)]
    ·rw [if_neg h1,if_neg (by omega)]
   ·simp only [hp,Wd,Yl]
    rw [if_neg (by omega)]
 ·rintro _ again rfl
  unfold qA
  dsimp only
  rw [aL (by omega)]
  congr 12
  refine congrArg (fun z:List Int=>(z.map W,_)) ?_
  apply Xe
  intro k hk
  rw [Xr] at hk
  by_cases hp:o4 v=true
  ·rw [if_pos (.inl hp),if_pos hp]
  ·rw [if_neg (fun h=>h.elim hp (fun h=>by omega)),if_neg hp]
 ·simp only [X5,or_true,Yn]
  congr 13
  rw [Wy]
  refine congrArg (fun z:List aa=>(z,_)) ?_
  apply WO
  intro i
  by_cases hi:i<(av v).length
  ·rw [List.getElem?_map,List.getElem?_map,WX hi,WY,if_pos hi];rfl
  ·rw [WW (by simp;omega),WW (by simp;omega)]
def DH (v:ai) (br:Br) (i k:Nat):Int:=if o4 v=true then tE (iK v) (u5 v k) k (br.take i) else pS (iK v) (atB br k) (u5 v k)
theorem T4 {v:ai} (hv:k8 v) {br:Br} (hbr:iw (av v).length br) (hl:br.length≤1000) (L N B:List aa) (A:List aa) (H:List Bool) (f:Nat) (hf:br.length<f):
 iter f (((br.length:Int),(0:Int),v.1,v.2.1,v.2.2.1,v.2.2.2.1,v.2.2.2.2.1,v.2.2.2.2.2.1,v.2.2.2.2.2.2.1,v.2.2.2.2.2.2.2.1,v.2.2.2.2.2.2.2.2,L,((List.range (av v).length).map (DH v br 0)).map W,N,B,br.map shW,A,H,()):nH) qE=
  some (Sum.inr (v.1,v.2.1,v.2.2.1,v.2.2.2.1,v.2.2.2.2.1,v.2.2.2.2.2.1,v.2.2.2.2.2.2.1,v.2.2.2.2.2.2.2.1,v.2.2.2.2.2.2.2.2,L,(nE v br).map W,N,B,br.map shW,A,H,())):=by
 refine bQ (Inv:=fun i X=>X=(((br.length:Int),(i:Int),v.1,v.2.1,v.2.2.1,v.2.2.2.1,v.2.2.2.2.1,v.2.2.2.2.2.1,v.2.2.2.2.2.2.1,v.2.2.2.2.2.2.2.1,v.2.2.2.2.2.2.2.2,L,((List.range (av v).length).map (DH v br i)).map W,N,B,br.map shW,A,H,()):nH)) br.length
  (fun r=>r=some (Sum.inr (v.1,v.2.1,v.2.2.1,v.2.2.2.1,v.2.2.2.2.1,v.2.2.2.2.2.1,v.2.2.2.2.2.2.1,v.2.2.2.2.2.2.2.1,v.2.2.2.2.2.2.2.2,L,(nE v br).map W,N,B,br.map shW,A,H,()))) ?_ ?_ f 0 _ rfl (by omega) (by omega)
 ·rintro i _ again hi rfl ih
  unfold qE
  dsimp only
  have hp:br[i]? =some br[i]:=aW hi
  have hpm:=W4 hi
  generalize br[i]=p at hp hpm
  have hpx:=hbr.ix p hpm
  have hpa:=hbr.am p hpm
  have hsm:(br.map shW)[i]? =some (shW p):=by rw [List.getElem?_map,hp];rfl
  rw [aM (by omega),aR (by rw [W7];simp only [Wa,decide_eq_true_eq];omega),Wy,hsm,Option.bind_some]
  have e1:(shW p).1=(p.1:Int):=rfl
  have e2:(shW p).2=W p.2:=rfl
  rw [e1,e2]
  rcases Bool.eq_false_or_eq_true v.2.2.2.2.2.1 with hper | hper
  ·have hpr:o4 v=true:=hper
   have hr:(av v)[p.1]? =some (av v)[p.1]:=aW hpx
   generalize (av v)[p.1]=r at hr
   have hpc:=Qm hr
   have hpo:=Nk hv p.1
   have htl:=RC (way:=iK v) hpo p.1 (b:=br.take i) fun q hq=>hbr.am q (Xp hq)
   have htl2:=Vh (show (br.take i).length≤1000 by rw [Xc];omega) htl
   have hpt:Le 38 (pS (iK v) p.2 (u5 v p.1)):=(NO (CD hpa) hpo:Le 35 _).mono (by omega)
   have hget:(((List.range (av v).length).map (DH v br i)).map W)[p.1]? =some (W (tE (iK v) (u5 v p.1) p.1 (br.take i))):=by
    rw [List.getElem?_map,List.getElem?_map,WX hpx]
    unfold DH
    simp only [Yc,hpr,Yn]
   have hck:(decide (0≤(p.1:Int))&&decide ((p.1:Int)<((((List.range (av v).length).map (DH v br i)).map W).length:Int)))=true:=by
    simp only [W7,Xa,Wa,decide_eq_true_eq];omega
   rw [Vm hper,aR hck,Wy,hget,Option.bind_some,bR,show v.2.2.2.2.2.2.1=av v from rfl,hr,Option.bind_some]
   rw [show (v.1,v.2.1,v.2.2.1,v.2.2.2.1,v.2.2.2.2.1,v.2.2.2.2.2.1,av v,v.2.2.2.2.2.2.2.1,v.2.2.2.2.2.2.2.2)=v from rfl, ← hpc,zi v _ _ hpo ((CD hpa).mono (by omega)),Option.bind_some]
   dsimp only
   rw [dn _ _ (htl2.w (by omega)) (hpt.w (by omega)),Option.bind_some,aR hck,Option.bind_some,aI (by omega) (by omega), ← List.map_set]
   refine ih _ ?_
   congr 12
   refine congrArg (fun z:List Int=>(z.map W,_)) ?_
   have htk:br.take (i+1)=br.take i++[p]:=by rw [XB,hp];rfl
   refine B9 _ _ _ _ _ (fun j hj hji=> ?_) ?_
   ·unfold DH
    simp only [hpr,Yn,htk,Fg,tE]
    rw [if_neg (fun e=>hji e.symm)];omega
   ·unfold DH
    simp only [hpr,Yn,htk,Fg,tE]
    omega
  ·have hpr:o4 v=false:=hper
   rw [VC hper,aI (by omega) (by omega)]
   refine ih _ ?_
   congr 12
   refine congrArg (fun z:List Int=>(z.map W,_)) ?_
   apply Xe
   intro k _
   unfold DH
   simp [hpr]
 ·rintro _ again rfl
  unfold qE
  dsimp only
  rw [aL (by omega)]
  congr 12
  refine congrArg (fun z:List Int=>(z.map W,_)) ?_
  apply Xe
  intro k _
  unfold DH Qv
  rw [XE (XN _)]
theorem Vt {v:ai} (hv:k8 v) (nets lines am:List Int) {br:Br} (hbr:iw (av v).length br) (hl:br.length≤1000) (has:List Bool):
 vK (Bx v nets lines (aQ (av v).length br) br am has [])=some (bif bp (nE v br) then 0 else 1,Bx v nets lines (aQ (av v).length br) br am has (nE v br),()):=by
 have hrn:0<(av v).length∧(av v).length≤20:=hv.rn
 unfold vK Bx
 dsimp only
 rw [W7,gC,aR (by simp only [Wa,decide_eq_true_eq];omega),TY hv hbr hl (lines.map W) (nets.map W) (br.map shW) (am.map W) has _ ?_,aK]
 ·dsimp only
  have e0:((List.range (av v).length).map fun k=>if o4 v=true then 0 else pS (iK v) (atB br k) (u5 v k))=(List.range (av v).length).map (DH v br 0):=by
   apply Xe
   intro k _
   unfold DH
   split<;>rfl
  rw [e0,W7,T4 hv hbr hl (lines.map W) (nets.map W) ((aQ (av v).length br).map W) (am.map W) has _ ?_,aK]
  ·dsimp only
   rw [Ox _ (by unfold nE;simp;omega),Option.bind_some]
   dsimp only
   cases bp (nE v br)<;>rfl
  ·simp;omega
 ·simp;omega
end Go.Md
namespace Go.Md
open Go.Dn
theorem Ax (v:ai) (lines:List Int):∀ (a b:List au) (s:ESt),fI v lines (a++b) s=match fI v lines a s with | .inl f=> .inl f | .inr t=>fI v lines b t
 | [],b,s=>rfl
 | x::a,b,s=>by
  simp only [WG,fI]
  cases qT v lines x with
  | inl f=>rfl
  | inr t=>
   dsimp only
   cases bp (aQ (av v).length (s.1++t.2.1)) with
   | true=>simp only [cond_true];exact Ax v lines a b _
   | false=>rfl
theorem Pb {v:ai} {lines:List Int} {l:List au} {i:Nat} {x:au} (hx:l[i]? =some x) {s t:ESt} (h:fI v lines (l.take i) s= .inr t):
 fI v lines (l.take (i+1)) s=match qT v lines x with | .inl f=> .inl f | .inr r=>bif bp (aQ (av v).length (t.1++r.2.1)) then .inr (t.1++r.2.1,t.2.1++r.2.2,t.2.2++[r.1]) else .inl 1:=by
 rw [XB,hx,Ax,h]
 simp only [Option.toList,fI]
 cases qT v lines x<;>rfl
theorem Iy {v:ai} {lines:List Int} {l:List au} {i:Nat} {s:ESt} {f:Int} (h:fI v lines (l.take i) s= .inl f):fI v lines l s= .inl f:=by
 have:=Ax v lines (l.take i) (l.drop i) s
 rw [XC,h] at this
 exact this
def wU (v:ai) (lines:List Int) (s:ShZ):fD:=(v,s.nets.map W,lines.map W,(aQ (av v).length s.br).map W,s.br.map shW,s.am.map W,cR (av v).length s.fl,s.taxes.map W)
theorem Rh {v:ai} (hv:k8 v) (nets lines:List Int) (hll:lines.length=(av v).length) (hal:bp lines=true) {lb:Br} (hlb:iw (av v).length lb) (hlbl:lb.length≤500) (fl0:List Nat) (ar:List fD) (f:Nat) (hf:(bU v).length<f):
 (∃ s:ESt,fI v lines (bU v) (lb,fl0,[])= .inr s∧iw (av v).length s.1∧s.1.length≤900∧
   iter f ((bU v,((bU v).length:Int),(0:Int),v.1,v.2.1,v.2.2.1,v.2.2.2.1,v.2.2.2.2.1,v.2.2.2.2.2.1,v.2.2.2.2.2.2.1,v.2.2.2.2.2.2.2.1,v.2.2.2.2.2.2.2.2,nets.map W,lines.map W,(aQ (av v).length lb).map W,lb.map shW,([]:List aa),cR (av v).length fl0,([]:List aa),ar,()):kR) nA=
    some (Sum.inr (v.1,v.2.1,v.2.2.1,v.2.2.2.1,v.2.2.2.2.1,v.2.2.2.2.2.1,v.2.2.2.2.2.2.1,v.2.2.2.2.2.2.2.1,v.2.2.2.2.2.2.2.2,nets.map W,lines.map W,(aQ (av v).length s.1).map W,s.1.map shW,s.2.2.map W,cR (av v).length s.2.1,([]:List aa),ar,())))∨
 (∃ fa,fa≠0∧fI v lines (bU v) (lb,fl0,[])= .inl fa∧
   iter f ((bU v,((bU v).length:Int),(0:Int),v.1,v.2.1,v.2.2.1,v.2.2.2.1,v.2.2.2.2.1,v.2.2.2.2.2.1,v.2.2.2.2.2.2.1,v.2.2.2.2.2.2.2.1,v.2.2.2.2.2.2.2.2,nets.map W,lines.map W,(aQ (av v).length lb).map W,lb.map shW,([]:List aa),cR (av v).length fl0,([]:List aa),ar,()):kR) nA=some (Sum.inl (none,fa,ar,()))):=by
 have hxl:(bU v).length≤20:=(l9 hv.ext).1
 have hxe:=(l9 hv.ext).2
 refine bQ (Inv:=fun i X=>∃ s:ESt,fI v lines ((bU v).take i) (lb,fl0,[])= .inr s∧iw (av v).length s.1∧s.1.length≤500+20*i∧s.2.2.length=i∧X=((bU v,((bU v).length:Int),(i:Int),v.1,v.2.1,v.2.2.1,v.2.2.2.1,v.2.2.2.2.1,v.2.2.2.2.2.1,v.2.2.2.2.2.2.1,v.2.2.2.2.2.2.2.1,v.2.2.2.2.2.2.2.2,nets.map W,lines.map W,(aQ (av v).length s.1).map W,s.1.map shW,s.2.2.map W,cR (av v).length s.2.1,([]:List aa),ar,()):kR)) (bU v).length
  (fun r=>(∃ s:ESt,fI v lines (bU v) (lb,fl0,[])= .inr s∧iw (av v).length s.1∧s.1.length≤900∧r=some (Sum.inr (v.1,v.2.1,v.2.2.1,v.2.2.2.1,v.2.2.2.2.1,v.2.2.2.2.2.1,v.2.2.2.2.2.2.1,v.2.2.2.2.2.2.2.1,v.2.2.2.2.2.2.2.2,nets.map W,lines.map W,(aQ (av v).length s.1).map W,s.1.map shW,s.2.2.map W,cR (av v).length s.2.1,([]:List aa),ar,())))∨
    (∃ fa,fa≠0∧fI v lines (bU v) (lb,fl0,[])= .inl fa∧r=some (Sum.inl (none,fa,ar,())))) ?_ ?_ f 0 _ ⟨(lb,fl0,[]),rfl,hlb,by simpa using hlbl,rfl,rfl⟩ (by omega) (by omega)
 ·rintro i _ again hi ⟨s,h1,h2,h3,h4,rfl⟩ ih
  unfold nA
  dsimp only
  have hx:(bU v)[i]? =some (bU v)[i]:=aW hi
  have hxm:=W4 hi
  generalize (bU v)[i]=x at hx hxm
  have hxo:=(hxe x hxm).1
  have hst:=Pb hx h1
  rw [aM (by omega),bR,hx,Option.bind_some]
  have he:=Un hv nets s.2.2 [] hll hal h2 (by omega) (by omega) s.2.1 hxo
  unfold Bx at he
  rw [show (v.1,v.2.1,v.2.2.1,v.2.2.2.1,v.2.2.2.2.1,v.2.2.2.2.2.1,v.2.2.2.2.2.2.1,v.2.2.2.2.2.2.2.1,v.2.2.2.2.2.2.2.2)=v from rfl]
  rcases he with ⟨d,p,g,g1,g2,g3,g4⟩ | ⟨fa,b,g0,g1,g4⟩
  ·rw [g1] at hst
   dsimp only at hst
   rw [show ([]:List aa)=([]:List Int).map W from rfl,g4,Option.bind_some]
   dsimp only
   cases ha:bp (aQ (av v).length (s.1++p)) with
   | true=>
    rw [ha,cond_true] at hst
    rw [cond_true,show ((0:Int) != 0)=false from rfl,cond_false,aI (by omega) (by omega)]
    exact ih _ ⟨_,hst,g2,by rw [W5];omega,by rw [W5];simp [h4],rfl⟩
   | false=>
    rw [ha,cond_false] at hst
    rw [cond_false,show ((1:Int) != 0)=true from rfl,cond_true]
    exact .inr ⟨1,by omega,Iy hst,rfl⟩
  ·rw [g1] at hst
   rw [show ([]:List aa)=([]:List Int).map W from rfl,g4,Option.bind_some]
   dsimp only
   rw [show (fa != 0)=true by simpa using g0,cond_true]
   exact .inr ⟨fa,g0,Iy hst,rfl⟩
 ·rintro _ again ⟨s,h1,h2,h3,h4,rfl⟩
  unfold nA
  dsimp only
  rw [aL (by omega)]
  rw [XE (XN _)] at h1
  exact .inl ⟨s,h1,h2,by omega,rfl⟩
theorem Cm {v:ai} (h0:jc v=0):
 (∃ lines s,xb v= .inr s∧iw (av v).length s.br∧s.br.length≤900∧lT v []=some (some 0,0,[wU v lines s],()))∨
 (∃ f,f≠0∧xb v= .inl f∧lT v []=some (none,f,[],())):=by
 have hv:=BN h0
 have hrn:0<(av v).length∧(av v).length≤20:=hv.rn
 have hln:0<(bg v).length∧(bg v).length≤500:=hv.ln
 unfold lT xb
 rw [nT,Option.bind_some]
 dsimp only
 rw [h0,show ((0:Int) != 0)=false from rfl,cond_false]
 rcases ML hv with ⟨lb,h1,h2,h3,h4,e⟩ | ⟨h1,b,e⟩
 ·rw [e,Option.bind_some,h1]
  unfold Bx
  dsimp only
  rw [show ((0:Int) != 0)=false from rfl,cond_false,h4,cond_true]
  have hll:=gC (av v).length lb
  have hve:(bU v).length=v.2.2.2.2.2.2.2.2.length:=rfl
  rcases Rh hv (lb.map (·.2)) (aQ (av v).length lb) hll h4 h2 (by omega) (lb.map (·.1)) [] (v.2.2.2.2.2.2.2.2.length+(Int.natAbs ((v.2.2.2.2.2.2.2.2.length:Int))+(Int.natAbs (0:Int)+(v.1.length+(v.2.1.length+(v.2.2.1.natAbs+(v.2.2.2.1.natAbs+(v.2.2.2.2.1.natAbs+(v.2.2.2.2.2.2.1.length+(v.2.2.2.2.2.2.2.1.length+(v.2.2.2.2.2.2.2.2.length+(List.length ((lb.map (·.2)).map W)+(List.length ((aQ (av v).length lb).map W)+(List.length ((aQ (av v).length lb).map W)+(List.length (lb.map shW)+(List.length ([]:List aa)+(List.length (cR (av v).length (lb.map (·.1)))+(List.length ([]:List aa)+(List.length ([]:List fD)+2))))))))))))))))))) (by omega) with ⟨s,g1,g2,g3,g4⟩ | ⟨fa,g0,g1,g4⟩
  ·rw [g1]
   dsimp only
   rw [show ([]:List Int).map W=([]:List aa) from rfl,g4,aK]
   dsimp only
   have ht:=Vt hv (lb.map (·.2)) (aQ (av v).length lb) s.2.2 g2 (by omega) (cR (av v).length s.2.1)
   unfold Bx at ht
   rw [show ([]:List Int).map W=([]:List aa) from rfl] at ht
   rw [show (v.1,v.2.1,v.2.2.1,v.2.2.2.1,v.2.2.2.2.1,v.2.2.2.2.2.1,v.2.2.2.2.2.2.1,v.2.2.2.2.2.2.2.1,v.2.2.2.2.2.2.2.2)=v from rfl,ht,Option.bind_some]
   dsimp only
   cases ha:bp (nE v s.1) with
   | true=>
    rw [cond_true,cond_true,show ((0:Int) != 0)=false from rfl,cond_false]
    exact .inl ⟨_,_,rfl,g2,g3,rfl⟩
   | false=>
    rw [cond_false,cond_false,show ((1:Int) != 0)=true from rfl,cond_true]
    exact .inr ⟨1,by omega,rfl,rfl⟩
  ·rw [g1]
   dsimp only
   rw [show ([]:List Int).map W=([]:List aa) from rfl,g4,mu]
   exact .inr ⟨fa,g0,rfl,rfl⟩
 ·rw [e,Option.bind_some]
  dsimp only
  rw [show ((1:Int) != 0)=true from rfl,cond_true]
  refine .inr ⟨1,by omega, ?_,rfl⟩
  rcases h1 with h1 | ⟨lb,h1,h2⟩
  ·rw [h1]
  ·rw [h1]
   dsimp only
   rw [h2];rfl
end Go.Md
namespace Go.Md
open Go.Dn
theorem NR {v:ai} (hv:k8 v):∀ {l:List aq} {lb:Br},(∀ x∈l,x∈bg v)→dH v l=some lb→iw (av v).length lb∧lb.length=l.length∧∀ (i:Nat) (x:aq) (p:Nat×Int),l[i]? =some x→lb[i]? =some p→wA v x=some p.2∧p.1=OQ v x
 | [],lb,_,h=>by simp only [dH,Option.some.injEq] at h;subst h;exact ⟨⟨by simp,by simp⟩,rfl,by simp⟩
 | x::l,lb,hm,h=>by
  simp only [dH] at h
  cases hn:wA v x with
  | none=>rw [hn] at h;cases h
  | some z=>
   rw [hn] at h
   simp only at h
   cases hl:dH v l with
   | none=>rw [hl] at h;cases h
   | some lb'=>
    rw [hl] at h
    simp only [Yc,Option.some.injEq] at h
    subst h
    obtain ⟨h1,h2,h3⟩:=NR hv (fun y hy=>hm y (Xj _ hy)) hl
    have hxo:=hv.lines x (hm x Xk)
    obtain ⟨k,hk⟩:=X9.1 hxo.rate
    obtain ⟨rt,hrt,_⟩:=pN hk
    have hkl:k<(av v).length:=(List.getElem?_eq_some_iff.1 hrt).1
    refine ⟨⟨fun p hp=> ?_,fun p hp=> ?_⟩,by simp [h2],fun i y p hi hp=> ?_⟩
    ·rcases Xi.1 hp with rfl | hp
     ·show (gV (·.1) x.2.2.2.2.2.2.2.2 (av v)).getD 0<_
      rw [hk];exact hkl
     ·exact h1.ix p hp
    ·rcases Xi.1 hp with rfl | hp
     ·exact (N4 hn).2
     ·exact h1.am p hp
    ·cases i with
     | zero=>
      simp only [WU,Option.some.injEq] at hi hp
      subst hi;subst hp;exact ⟨hn,rfl⟩
     | succ i=>
      simp only [WT] at hi hp
      exact h3 i y p hi hp
theorem Qk:∀ (l:List Int) (k:Nat),(gq k l).length≤l.length
 | [],k=>by simp [gq]
 | y::l,k=>by
  have:=Qk l (k+1)
  simp only [gq]
  split<;>simp<;>omega
theorem TK {n:Nat} (hn0:0<n) (hn:n≤20) {o:Option Nat} (ho:∀ k,o=some k→k<n) {lines:List Int} (hll:lines.length=n) {d d':Int} {p:Br} {g:List Nat} (h:pM o d lines= .inr (d',p,g)):
 d'=d∧lN d=true∧iw n p∧p.length≤20∧(p.map (·.2)).sum=d∧∀ q∈p,q.2≠0→q.1∈g:=by
 unfold pM at h
 cases him:lN d with
 | false=>rw [him] at h;cases h
 | true=>
  rw [him,cond_true] at h
  have hd:=qh.1 him
  cases o with
  | some k=>
   simp only [Sum.inr.injEq,Prod.mk.injEq] at h
   obtain ⟨rfl,rfl,rfl⟩:=h
   exact ⟨rfl,rfl,⟨by simpa using ho k rfl,by simpa using hd⟩,by simp,by simp,by simp⟩
  | none=>
   dsimp only at h
   cases hz:(lines.all fun b=>b==0) with
   | true=>
    rw [hz,cond_true] at h
    simp only [Sum.inr.injEq,Prod.mk.injEq] at h
    obtain ⟨rfl,rfl,rfl⟩:=h
    refine ⟨rfl,rfl,⟨by simpa using hn0,by simpa using hd⟩,by simp,by simp,fun q hq hq0=> ?_⟩
    rw [Xs.1 hq] at hq0 ⊢
    rw [show (d==0)=false by simpa using hq0,cond_false]
    simp
   | false=>
    rw [hz,cond_false] at h
    cases hw:(lines.any fun b=>decide (MW<b.natAbs)) with
    | true=>rw [hw] at h;cases h
    | false=>
     rw [hw,cond_false] at h
     simp only [Sum.inr.injEq,Prod.mk.injEq] at h
     obtain ⟨rfl,rfl,rfl⟩:=h
     have hpos:=AZ hz
     have hmem:=LB (eU d (lines.map Int.natAbs)) 0
     have hxl:(eU d (lines.map Int.natAbs)).length=n:=by rw [KU,W7,hll]
     refine ⟨rfl,rfl,⟨fun q hq=> ?_,fun q hq=> ?_⟩, ?_, ?_,fun q hq _=>List.mem_map_of_mem hq⟩
     ·have:=(hmem q hq).2.1;omega
     ·have:=MD (n:=d) hpos (hmem q hq).2.2.1;omega
     ·have:=Qk (eU d (lines.map Int.natAbs)) 0;omega
     ·rw [Po,QH hpos]
theorem iw.append {n:Nat} {a b:Br} (ha:iw n a) (hb:iw n b):iw n (a++b):=
 ⟨fun p hp=>(Xh.1 hp).elim (ha.ix p) (hb.ix p),fun p hp=>(Xh.1 hp).elim (ha.am p) (hb.am p)⟩
theorem MS {v:ai} (hv:k8 v) {lines:List Int} (hll:lines.length=(av v).length):∀ (l:List au) (s t:ESt),fI v lines l s= .inr t→iw (av v).length s.1→bp s.2.2=true→(∀ q∈s.1,q.2≠0→q.1∈s.2.1)→bp (aQ (av v).length s.1)=true→
 iw (av v).length t.1∧t.1.length≤s.1.length+20*l.length∧bp t.2.2=true∧t.2.2.length=s.2.2.length+l.length∧(t.1.map (·.2)).sum=(s.1.map (·.2)).sum+(t.2.2.sum - s.2.2.sum)∧(∀ q∈t.1,q.2≠0→q.1∈t.2.1)∧bp (aQ (av v).length t.1)=true
 | [],s,t,h,h1,h2,h3,h4=>by
  simp only [fI,Sum.inr.injEq] at h
  subst h
  exact ⟨h1,by simp,h2,by simp,by omega,h3,h4⟩
 | x::l,s,t,h,h1,h2,h3,h4=>by
  have hrn:0<(av v).length∧(av v).length≤20:=hv.rn
  simp only [fI] at h
  cases hb:qT v lines x with
  | inl f=>rw [hb] at h;cases h
  | inr r=>
   obtain ⟨d,p,g⟩:=r
   rw [hb] at h
   dsimp only at h
   unfold qT at hb
   have hbo:=TK hrn.1 hrn.2 (fun k hk=>by obtain ⟨rt,hrt,_⟩:=pN hk;exact (List.getElem?_eq_some_iff.1 hrt).1) hll hb
   obtain ⟨rfl,g1,g2,g3,g4,g5⟩:=hbo
   cases ha:bp (aQ (av v).length (s.1++p)) with
   | false=>rw [ha] at h;cases h
   | true=>
    rw [ha,cond_true] at h
    generalize gf (iK v) (vPl v) (sC v lines x) x=d at*
    obtain ⟨k1,k2,k3,k4,k5,k6,k7⟩:=MS hv hll l _ t h (h1.append g2) (by unfold bp at *;rw [List.all_append,h2];simpa using g1) (fun q hq hq0=>by
     rcases Xh.1 hq with hq | hq
     ·exact Xh.2 (.inl (h3 q hq hq0))
     ·exact Xh.2 (.inr (g5 q hq hq0))) ha
    dsimp only at k2 k4 k5
    refine ⟨k1, ?_,k3, ?_, ?_,k6,k7⟩
    ·rw [W5] at k2;simp only [W6];omega
    ·rw [W5] at k4;simp only [W6,W8] at k4 ⊢;omega
    ·rw [k5,Xd,Xz,g4,Xz];simp;omega
structure SOk (v:ai) (s:ShZ):Prop where
 nets:bp s.nets=true
 netl:s.nets.length=(bg v).length
 neti:∀ (i:Nat) (x:aq) (z:Int),(bg v)[i]? =some x→s.nets[i]? =some z→wA v x=some z
 br:iw (av v).length s.br
 brl:s.br.length≤900
 bs:bp (aQ (av v).length s.br)=true
 am:bp s.am=true
 aml:s.am.length≤20
 tx:bp s.taxes=true
 txe:s.taxes=nE v s.br
 sum:(s.br.map (·.2)).sum=s.nets.sum+s.am.sum
 fl:∀ q∈s.br,q.2≠0→q.1∈s.fl
theorem Tc {v:ai} (hv:k8 v) {s:ShZ} (h:xb v= .inr s):SOk v s:=by
 have hln:0<(bg v).length∧(bg v).length≤500:=hv.ln
 have hxl:(bU v).length≤20:=(l9 hv.ext).1
 unfold xb at h
 cases hl:dH v (bg v) with
 | none=>rw [hl] at h;cases h
 | some lb=>
  rw [hl] at h
  dsimp only at h
  cases ha:bp (aQ (av v).length lb) with
  | false=>rw [ha] at h;cases h
  | true=>
   rw [ha,cond_true] at h
   cases he:fI v (aQ (av v).length lb) (bU v) (lb,lb.map (·.1),[]) with
   | inl f=>rw [he] at h;cases h
   | inr t=>
    rw [he] at h
    dsimp only at h
    cases ht:bp (nE v t.1) with
    | false=>rw [ht] at h;cases h
    | true=>
     rw [ht,cond_true] at h
     cases h
     obtain ⟨b1,b2,b3⟩:=NR hv (fun x hx=>hx) hl
     obtain ⟨k1,k2,k3,k4,k5,k6,k7⟩:=MS hv (gC _ _) _ _ t he b1 rfl (fun q hq _=>List.mem_map_of_mem hq) ha
     dsimp only at k2 k4 k5
     refine ⟨?_,by simp [b2],fun i x z hx hz=> ?_,k1,by show t.1.length≤900;omega,k7,k3,by show t.2.2.length≤20;simp only [W8] at k4;omega,ht,rfl,by rw [k5];simp,k6⟩
     ·show bp (lb.map (·.2))=true
      unfold bp
      rw [WA]
      intro z hz
      obtain ⟨p,hp,rfl⟩:=Xo.1 hz
      exact qh.2 (b1.am p hp)
     ·simp only [List.getElem?_map] at hz
      cases hp:lb[i]? with
      | none=>rw [hp] at hz;cases hz
      | some p=>
       rw [hp] at hz
       simp only [Yc,Option.some.injEq] at hz
       subst hz
       exact (b3 i x p hx hp).1
def Pk (v:ai) (s:ShZ):uP:=(EA v s.nets.sum,EA v s.am.sum,EA v (s.nets.sum+s.am.sum),EA v s.taxes.sum,EA v (s.nets.sum+s.am.sum+s.taxes.sum))
theorem Fm {l:List Int} (hl:l.length≤1000) (hal:bp l=true):AJ (l.map W)=some (W l.sum,()):=by
 unfold AJ
 rw [fF 0 (by omega) (by omega),Option.bind_some]
 dsimp only
 have loop:∀ f,l.length<f→iter f ((l.map W,(l.length:Int),(0:Int),false,([]:List Int),(W 0).1,(W 0).2,()):wZ) AT=some (Sum.inr (false,([]:List Int),(W l.sum).1,(W l.sum).2,())):=by
  intro f hf
  refine bQ (Inv:=fun i X=>X=((l.map W,(l.length:Int),(i:Int),false,([]:List Int),(W (l.take i).sum).1,(W (l.take i).sum).2,()):wZ)) l.length (fun r=>r=some (Sum.inr (false,([]:List Int),(W l.sum).1,(W l.sum).2,()))) ?_ ?_ f 0 _ rfl (by omega) (by omega)
  ·rintro i _ again hi rfl ih
   unfold AT
   dsimp only
   have hz:l[i]? =some l[i]:=aW hi
   have hzm:lN l[i]=true:=WA.1 hal _ (W4 hi)
   generalize l[i]=z at hz hzm
   have h1:=yz (l:=l.take i) (by rw [Xc];omega) (MN hal i)
   have h2:=CD (qh.1 hzm)
   rw [aM (by omega),bR,List.getElem?_map,hz,Yc,Option.bind_some,show ((W (l.take i).sum).1,(W (l.take i).sum).2)=W (l.take i).sum from rfl,dn _ _ (h1.w (by omega)) (h2.w (by omega)),Option.bind_some,aI (by omega) (by omega), ← Gj hz]
   exact ih _ rfl
  ·rintro _ again rfl
   unfold AT
   dsimp only
   rw [aL (by omega),XE (XN _)]
 rw [W7,loop _ (by omega),aK]
theorem vr (v:ai) (lines:List Int) (s:ShZ) {z:Int} (hz:lN z=true):jh (some 0) (W z) [wU v lines s]=some (EA v z,()):=by
 have h:=qh.1 hz
 have:=Es
 unfold jh
 rw [Option.bind_some,show ([wU v lines s]:List fD)[0]? =some (wU v lines s) from rfl,Option.bind_some,Gv,if_pos (by omega),Option.bind_some]
 rfl
theorem M3 {v:ai} (hv:k8 v) (lines:List Int) {s:ShZ} (hs:SOk v s):
 qL (some 0) [wU v lines s]=some (bif bp (ld s) then (Pk v s,0,()) else (((0,0),(0,0),(0,0),(0,0),0,0),1,())):=by
 have hln:0<(bg v).length∧(bg v).length≤500:=hv.ln
 have hrn:0<(av v).length∧(av v).length≤20:=hv.rn
 have htl:s.taxes.length≤20:=by rw [hs.txe];unfold nE;simp;omega
 have hnl:=hs.netl;have haml:=hs.aml
 have n1:=yz (by omega) hs.nets
 have n2:=yz (by omega) hs.am
 have n3:=yz (by omega) hs.tx
 have n4:=(n1.add n2)
 have n5:=(n4.add (n3.mono (show 19≤20 by omega)))
 unfold qL
 have hg:([wU v lines s]:List fD)[0]? =some (wU v lines s):=rfl
 simp only [Option.bind_some,hg]
 rw [show (wU v lines s).2.1=s.nets.map W from rfl,Fm (by omega) hs.nets,Option.bind_some]
 rw [show (wU v lines s).2.2.2.2.2.1=s.am.map W from rfl,Fm (by omega) hs.am,Option.bind_some]
 rw [show (wU v lines s).2.2.2.2.2.2.2=s.taxes.map W from rfl,Fm (by omega) hs.tx,Option.bind_some]
 dsimp only
 rw [dn _ _ (n1.w (by omega)) (n2.w (by omega)),Option.bind_some]
 dsimp only
 rw [dn _ _ (n4.w (by omega)) (n3.w (by omega)),Option.bind_some]
 dsimp only
 rw [show [W s.nets.sum,W s.am.sum,W (s.nets.sum+s.am.sum),W s.taxes.sum,W (s.nets.sum+s.am.sum+s.taxes.sum)]=(ld s).map W from rfl,OH _ (by unfold ld;simp),Option.bind_some]
 dsimp only
 cases ha:bp (ld s) with
 | false=>rfl
 | true=>
  have hal:=ha
  unfold bp ld at hal
  simp only [Wz,List.all_nil,Wc,Wa] at hal
  obtain ⟨a1,a2,a3,a4,a5⟩:=hal
  rw [Bool.not_true,cond_false,vr v lines s a1,Option.bind_some,vr v lines s a2,Option.bind_some,vr v lines s a3,Option.bind_some,vr v lines s a4,Option.bind_some,vr v lines s a5,Option.bind_some]
  rfl
def UD:uP:=((0,0),(0,0),(0,0),(0,0),0,0)
def NM (v:ai):uP×Int×Unit:=if jc v≠0 then (UD,jc v,()) else match tq v with | .inl f=>(UD,f,()) | .inr s=>(Pk v s,0,())
theorem L6 {v:ai} (h:jc v≠0):lT v []=some (none,jc v,[],()):=by
 unfold lT
 rw [nT,Option.bind_some]
 dsimp only
 rw [show (jc v != 0)=true by simpa using h,cond_true]
theorem FM (v:ai):wW v=some (NM v):=by
 unfold wW NM
 by_cases h0:jc v=0
 ·rw [if_neg (by simpa using h0)]
  have hv:=BN h0
  unfold tq
  rcases Cm h0 with ⟨lines,s,h1,h2,h3,e⟩ | ⟨f,hf,h1,e⟩
  ·have hs:=Tc hv h1
   rw [e,Option.bind_some,h1]
   dsimp only
   rw [show ((0:Int) != 0)=false from rfl,cond_false,M3 hv lines hs,Option.bind_some]
   cases ha:bp (ld s)<;>rfl
  ·rw [e,Option.bind_some,h1]
   dsimp only
   rw [show (f != 0)=true by simpa using hf,cond_true]
   rfl
 ·rw [if_pos h0,L6 h0,Option.bind_some]
  dsimp only
  rw [show (jc v != 0)=true by simpa using h0,cond_true]
  rfl
end Go.Md
namespace Go.Md
open Go.Dn
theorem Tj {α:Type} {l:List α} {i:Nat} {y:α} (h:l[i]? =some y):l.set i y=l:=by
 obtain ⟨hi,rfl⟩:=List.getElem?_eq_some_iff.1 h
 exact List.set_getElem_self hi
theorem GH {n r:Nat} (h:0<r):n<n+r:=by omega
theorem EV {n a r:Nat} (h:n<r):n<a+r:=by omega
theorem TN {l:List au} (hl:l.length≤1000):mm l=some (l,()):=by
 unfold mm
 rw [aR (mZ (by omega) (by omega))]
 cases l with
 | nil=>rw [El];rfl
 | cons a l=>rfl
theorem SB {l:List aq} (hl:l.length≤1000):gJ l=some (l,()):=by
 unfold gJ
 rw [aR (mZ (by omega) (by omega))]
 cases l with
 | nil=>rw [El];rfl
 | cons a l=>rfl
theorem Sq {l:List az} (hl:l.length≤1000):j7 l=some (l,()):=by
 unfold j7
 rw [aR (mZ (by omega) (by omega))]
 cases l with
 | nil=>rw [El];rfl
 | cons a l=>rfl
theorem HR {d:ak} (h:eP d):zH d=some (G8 d,()):=by
 unfold zH G8
 have:=h.1
 rw [aI (by omega) (by omega),show 0 - d.1= -d.1 by omega]
def upto {α:Type} (g:α→α) (l:List α) (i:Nat):List α:=(l.take i).map g++l.drop i
theorem Qz {α:Type} (g:α→α) (l:List α) (i:Nat):(upto g l i).length=l.length:=by
 unfold upto
 rw [W5,W7,Xc,List.length_drop];omega
theorem Qj {α:Type} (g:α→α) {l:List α} {i:Nat} (h:i<l.length):(upto g l i)[i]? =l[i]? :=by
 unfold upto
 rw [WS (by rw [W7,Xc];omega),WV,W7,Xc]
 congr 1;omega
theorem Qs {α:Type} (g:α→α) {l:List α} {i:Nat} (h:i<l.length):(upto g l i).set i (g l[i])=upto g l (i+1):=by
 unfold upto
 have h1:((l.take i).map g).length=i:=by rw [W7,Xc];omega
 rw [List.set_append_right _ _ (by omega),h1,Nat.sub_self,XB,aW h,Xd,WD]
 congr 1
 rw [WK h]
 rfl
theorem N7 {α:Type} (g:α→α) (l:List α):upto g l 0=l:=by simp [upto]
theorem O8 {α:Type} (g:α→α) (l:List α):upto g l l.length=l.map g:=by simp [upto]
theorem DA {pl:Int} {l:List au} (hl:l.length≤20) (h:∀ x∈l,CO pl x):nh l=some (l.map gP,()):=by
 unfold nh
 rw [TN (by omega),Option.bind_some]
 dsimp only
 have loop:∀ f,l.length<f→iter f (((l.length:Int),(0:Int),l,()):oq) rW=some (Sum.inr (l.map gP,())):=by
  intro f hf
  refine bQ (Inv:=fun i X=>X=(((l.length:Int),(i:Int),upto gP l i,()):oq)) l.length (fun r=>r=some (Sum.inr (l.map gP,()))) ?_ ?_ f 0 _ (by rw [N7];rfl) (by omega) (by omega)
  ·rintro i _ again hi rfl ih
   have hy:=Qj gP hi
   have hm:l[i]∈l:=W4 hi
   have hs:=Qs gP hi
   rw [aW hi] at hy
   generalize l[i]=y at hy hm hs
   have hd:=(h y hm).dec
   unfold rW
   dsimp only
   rw [aM (by omega),Qz,aR (by simp only [Wa,decide_eq_true_eq];omega),Wy,hy,Option.bind_some,aI (by omega) (by omega)]
   cases hp:y.1 with
   | false=>
    rw [Wk,cond_true,HR hd,Option.bind_some]
    dsimp only
    rw [aR (by simp only [Wa,decide_eq_true_eq];omega),Option.bind_some]
    refine ih _ ?_
    rw [← hs]
    unfold gP
    rw [hp]
    rfl
   | true=>
    rw [Bool.not_true,cond_false]
    refine ih _ ?_
    rw [← hs,show gP y=y by unfold gP;rw [hp,if_pos rfl, ← hp],show (upto gP l i).set i y=upto gP l i from Tj hy]
    rfl
  ·rintro _ again rfl
   unfold rW
   dsimp only
   rw [aL (by omega),O8]
 rw [loop _ (by rw [Wt];omega),aK]
def zeroV:ai:=([],[],0,0,0,false,[],[],[])
def G7 (v:ai) (n:List UInt8) (d:Int):ai×Int×Unit:=
 if jc v≠0 then (zeroV,jc v,()) else if qq n=false then (zeroV,5,()) else if n=v.1 then (zeroV,12,()) else if d<v.2.2.1∨3652059<d then (zeroV,1,())
 else if jc (kN v n d)≠0 then (zeroV,jc (kN v n d),()) else (kN v n d,0,())
theorem DC (v:ai) (n:List UInt8) (d:Int):s6 v n d=some (G7 v n d):=by
 unfold s6 G7
 rw [nT,Option.bind_some]
 dsimp only
 by_cases h0:jc v=0
 ·rw [if_neg (by simpa using h0),show (jc v != 0)=false by simpa using h0,cond_false,xL,Option.bind_some]
  dsimp only
  cases hn:qq n with
  | false=>rw [if_pos rfl,Wk,cond_true];rfl
  | true=>
   rw [if_neg (by simp),Bool.not_true,cond_false]
   by_cases he:n=v.1
   ·rw [if_pos he,show (n==v.1)=true by simpa using he,cond_true];rfl
   ·rw [if_neg he,show (n==v.1)=false by simpa using he,cond_false,kf,Option.bind_some]
    dsimp only
    by_cases hd:d<v.2.2.1∨3652059<d
    ·rw [if_pos hd,aM hd];rfl
    ·rw [if_neg hd,aL hd]
     have hv:=BN h0
     have hln:0<(bg v).length∧(bg v).length≤500:=hv.ln
     have hrn:0<(av v).length∧(av v).length≤20:=hv.rn
     have hx:=l9 hv.ext
     have e1:j7 (av v)=some (av v,()):=Sq (by omega)
     have e2:gJ (bg v)=some (bg v,()):=SB (by omega)
     have e3:nh (bU v)=some ((bU v).map gP,()):=DA hx.1 fun x h=>(hx.2 x h).1
     rw [e1,Option.bind_some,e2,Option.bind_some,e3,Option.bind_some]
     dsimp only
     have loop:∀ f,(bg v).length<f→iter f ((((bg v).length:Int),(0:Int),[],[],0,0,0,false,[],[],[],n,v.2.1,d,vPl v,iK v,o4 v,av v,(bU v).map gP,bg v,()):nM) nI=
      some (Sum.inr ([],[],0,0,0,false,[],[],[],n,v.2.1,d,vPl v,iK v,o4 v,av v,(bU v).map gP,(bg v).map ry,())):=by
      intro f hf
      refine bQ (Inv:=fun i X=>X=((((bg v).length:Int),(i:Int),[],[],0,0,0,false,[],[],[],n,v.2.1,d,vPl v,iK v,o4 v,av v,(bU v).map gP,upto ry (bg v) i,()):nM)) (bg v).length (fun r=>r=some (Sum.inr ([],[],0,0,0,false,[],[],[],n,v.2.1,d,vPl v,iK v,o4 v,av v,(bU v).map gP,(bg v).map ry,()))) ?_ ?_ f 0 _ (by rw [N7];rfl) (by omega) (by omega)
      ·rintro i _ again hi rfl ih
       have hy:=Qj ry hi
       have hm:(bg v)[i]∈bg v:=W4 hi
       have hs:=Qs ry hi
       rw [aW hi] at hy
       generalize (bg v)[i]=y at hy hm hs
       have hlo:uA (vPl v) (av v) y:=hv.lines y hm
       have hye:=l9 hlo.ext
       have e4:nh y.2.2.2.2.2.2.2.1=some (y.2.2.2.2.2.2.2.1.map gP,()):=DA hye.1 fun x h=>(hye.2 x h).1
       have hlen:((upto ry (bg v) i)).length=(bg v).length:=Qz _ _ _
       have e:nI (((bg v).length:Int),(i:Int),[],[],0,0,0,false,[],[],[],n,v.2.1,d,vPl v,iK v,o4 v,av v,(bU v).map gP,upto ry (bg v) i,()) again=again (((bg v).length:Int),((i+1:Nat):Int),[],[],0,0,0,false,[],[],[],n,v.2.1,d,vPl v,iK v,o4 v,av v,(bU v).map gP,upto ry (bg v) (i+1),()):=by
        unfold nI
        dsimp only
        rw [aM (by omega),hlen,aR (by simp only [Wa,decide_eq_true_eq];omega),Wy,hy,Option.bind_some,HR hlo.q,Option.bind_some,e4,Option.bind_some]
        dsimp only
        rw [aR (by simp only [Wa,decide_eq_true_eq];omega),Option.bind_some,Xb,hlen,aR (by simp only [Wa,decide_eq_true_eq];omega),W1 (by omega),Option.bind_some,aI (by omega) (by omega),List.set_set]
        dsimp only
        rw [show ((y.1,y.2.1,y.2.2.1,G8 y.2.2.2.1,y.2.2.2.2.1,y.2.2.2.2.2.1,y.2.2.2.2.2.2.1,List.map gP y.2.2.2.2.2.2.2.1,y.2.2.2.2.2.2.2.2):aq)=ry y from rfl,hs]
        rfl
       rw [e]
       exact ih _ rfl
      ·rintro _ again rfl
       unfold nI
       dsimp only
       rw [aL (by omega),O8]
     rw [loop _ (by rw [Wt];with_reducible apply GH;repeat (with_reducible first | exact Nat.zero_lt_two | apply EV)),aK]
     dsimp only
     rw [show ((n,v.2.1,d,vPl v,iK v,o4 v,av v,List.map ry (bg v),List.map gP (bU v)):ai)=kN v n d from rfl,nT,Option.bind_some]
     dsimp only
     by_cases h1:jc (kN v n d)=0
     ·rw [if_neg (by simpa using h1),show (jc (kN v n d) != 0)=false by simpa using h1,cond_false]
     ·rw [if_pos h1,show (jc (kN v n d) != 0)=true by simpa using h1,cond_true]
      rfl
 ·rw [if_pos h0,show (jc v != 0)=true by simpa using h0,cond_true]
  rfl
end Go.Md
namespace Go.Md
open Go.Dn
theorem PY (l:List au) (hl:l.length≤1000):jx l l=some (true,()):=by
 unfold jx
 rw [show (((List.length l:Nat):Int) != ((List.length l:Nat):Int))=false by simp,cond_false]
 have loop:∀ f,l.length<f→iter f ((l,l,(l.length:Int),(0:Int),()):ki) kj=some (Sum.inr ()):=by
  intro f hf
  refine bQ (Inv:=fun i X=>X=(l,l,(l.length:Int),(i:Int),())) l.length (fun r=>r=some (Sum.inr ())) ?_ ?_ f 0 _ rfl (by omega) (by omega)
  ·rintro i _ again hi rfl ih
   unfold kj
   dsimp only
   rw [aM (by omega),bR,aW hi,Option.bind_some,Option.bind_some]
   simp only [Ye,Bool.and_self,Bool.not_true,cond_false]
   rw [aI (by omega) (by omega)]
   exact ih _ rfl
  ·rintro _ again rfl
   unfold kj
   dsimp only
   rw [aL (by omega)]
 rw [loop _ (by with_reducible apply GH;repeat (with_reducible first | exact Nat.zero_lt_two | apply EV)),aK]
theorem Tv (l:List az) (hl:l.length≤1000):nc l l=some (true,()):=by
 unfold nc
 rw [show (((List.length l:Nat):Int) != ((List.length l:Nat):Int))=false by simp,cond_false]
 have loop:∀ f,l.length<f→iter f ((l,l,(l.length:Int),(0:Int),()):kE) kD=some (Sum.inr ()):=by
  intro f hf
  refine bQ (Inv:=fun i X=>X=(l,l,(l.length:Int),(i:Int),())) l.length (fun r=>r=some (Sum.inr ())) ?_ ?_ f 0 _ rfl (by omega) (by omega)
  ·rintro i _ again hi rfl ih
   unfold kD
   dsimp only
   rw [aM (by omega),bR,aW hi,Option.bind_some,Option.bind_some]
   simp only [Ye,Bool.and_self,Bool.not_true,cond_false]
   rw [aI (by omega) (by omega)]
   exact ih _ rfl
  ·rintro _ again rfl
   unfold kD
   dsimp only
   rw [aL (by omega)]
 rw [loop _ (by with_reducible apply GH;repeat (with_reducible first | exact Nat.zero_lt_two | apply EV)),aK]
theorem Of (d:ak):G8 (G8 d)=d:=by unfold G8;simp
theorem S9 (x:au):gP (gP x)=x:=by
 obtain ⟨a,b,c⟩:=x
 unfold gP
 cases a with
 | true=>rfl
 | false=>simp [Of]
theorem P0 (l:List au):(l.map gP).map gP=l:=by
 rw [List.map_map]
 exact (Xe fun x _=>S9 x).trans (List.map_id _)
theorem Tr (x:aq):ry (ry x)=x:=by
 unfold ry
 dsimp only
 rw [Of,P0]
theorem Uj (l:List aq):(l.map ry).map ry=l:=by
 rw [List.map_map]
 exact (Xe fun x _=>Tr x).trans (List.map_id _)
theorem TZ (v:ai) (n:List UInt8) (d:Int):kN (kN v n d) v.1 d=(v.1,v.2.1,d,v.2.2.2):=by
 unfold kN
 dsimp only [vPl,iK,o4,av,bg,bU]
 rw [Uj,P0]
theorem PF {v:ai} (h:jc v=0):qq v.1=true∧1≤v.2.2.1∧v.2.2.1≤3652059:=by
 unfold jc at h
 split at h
 ·omega
 rename_i h1
 split at h
 ·omega
 split at h
 ·omega
 rename_i h2
 exact ⟨by simpa using h1,by omega,by omega⟩
theorem Va {v:ai} (h:jc v=0) {d:Int} (h1:1≤d) (h2:d≤3652059):jc (v.1,v.2.1,d,v.2.2.2)=0:=by
 have h3:=(PF h).2
 unfold jc at h ⊢
 dsimp only [IG] at h ⊢
 rw [if_neg (c:=¬(1≤d∧d≤3652059)) (by omega)]
 rw [if_neg (c:=¬(1≤v.2.2.1∧v.2.2.1≤3652059)) (by omega)] at h
 exact h
theorem UA {v:ai} (h:jc v=0):Hy v v=some (true,()):=by
 have hv:=BN h
 have hln:0<(bg v).length∧(bg v).length≤500:=hv.ln
 have hrn:0<(av v).length∧(av v).length≤20:=hv.rn
 have hx:(bU v).length≤20:=(l9 hv.ext).1
 unfold Hy
 simp only [Ye,Bool.not_true,cond_false,Yf]
 have loop:∀ f,(bg v).length<f→iter f ((bg v,((bg v).length:Int),(0:Int),v.1,v.2.1,v.2.2.1,v.2.2.2.1,v.2.2.2.2.1,v.2.2.2.2.2.1,v.2.2.2.2.2.2.1,v.2.2.2.2.2.2.2.1,v.2.2.2.2.2.2.2.2,v.1,v.2.1,v.2.2.1,v.2.2.2.1,v.2.2.2.2.1,v.2.2.2.2.2.1,v.2.2.2.2.2.2.1,v.2.2.2.2.2.2.2.1,v.2.2.2.2.2.2.2.2,()):xp) A7=some (Sum.inr (v.1,v.2.1,v.2.2.1,v.2.2.2.1,v.2.2.2.2.1,v.2.2.2.2.2.1,v.2.2.2.2.2.2.1,v.2.2.2.2.2.2.2.1,v.2.2.2.2.2.2.2.2,v.1,v.2.1,v.2.2.1,v.2.2.2.1,v.2.2.2.2.1,v.2.2.2.2.2.1,v.2.2.2.2.2.2.1,v.2.2.2.2.2.2.2.1,v.2.2.2.2.2.2.2.2,())):=by
  intro f hf
  refine bQ (Inv:=fun i X=>X=((bg v,((bg v).length:Int),(i:Int),v.1,v.2.1,v.2.2.1,v.2.2.2.1,v.2.2.2.2.1,v.2.2.2.2.2.1,v.2.2.2.2.2.2.1,v.2.2.2.2.2.2.2.1,v.2.2.2.2.2.2.2.2,v.1,v.2.1,v.2.2.1,v.2.2.2.1,v.2.2.2.2.1,v.2.2.2.2.2.1,v.2.2.2.2.2.2.1,v.2.2.2.2.2.2.2.1,v.2.2.2.2.2.2.2.2,()):xp)) (bg v).length (fun r=>r=some (Sum.inr (v.1,v.2.1,v.2.2.1,v.2.2.2.1,v.2.2.2.2.1,v.2.2.2.2.2.1,v.2.2.2.2.2.2.1,v.2.2.2.2.2.2.2.1,v.2.2.2.2.2.2.2.2,v.1,v.2.1,v.2.2.1,v.2.2.2.1,v.2.2.2.2.1,v.2.2.2.2.2.1,v.2.2.2.2.2.2.1,v.2.2.2.2.2.2.2.1,v.2.2.2.2.2.2.2.2,()))) ?_ ?_ f 0 _ rfl (by omega) (by omega)
  ·rintro i _ again hi rfl ih
   have hy:(bg v)[i]? =some (bg v)[i]:=aW hi
   have hm:(bg v)[i]∈bg v:=W4 hi
   generalize (bg v)[i]=y at hy hm
   have hlo:uA (vPl v) (av v) y:=hv.lines y hm
   have hye:=l9 hlo.ext
   unfold A7
   dsimp only
   rw [aM (by omega),bR,hy,Option.bind_some,Option.bind_some]
   simp only [Ye,Bool.and_self,Bool.not_true,cond_false,Yf]
   rw [PY _ (by omega),Option.bind_some]
   simp only [Bool.not_true,cond_false]
   rw [aI (by omega) (by omega)]
   exact ih _ rfl
  ·rintro _ again rfl
   unfold A7
   dsimp only
   rw [aL (by omega)]
 rw [loop _ (by with_reducible apply GH;repeat (with_reducible first | exact Nat.zero_lt_two | apply EV)),aK]
 dsimp only
 rw [Tv _ (by show (av v).length≤_;omega),Option.bind_some]
 simp only [cond_true]
 rw [PY _ (by show (bU v).length≤_;omega),Option.bind_some]
theorem SG {v:ai} {s:ShZ} (h:tq v= .inr s):bp (ld s)=true:=by
 unfold tq at h
 split at h
 ·cases h
 ·rename_i t _
  cases ha:bp (ld t) with
  | true=>rw [ha,cond_true] at h;cases h;exact ha
  | false=>rw [ha,cond_false] at h;cases h
theorem Om {v:ai} (h0:jc v=0) {f:Int} (h:tq v= .inl f):f≠0:=by
 unfold tq at h
 rcases Cm h0 with ⟨lines,s,h1,_⟩ | ⟨g,hg,h1,_⟩
 ·rw [h1] at h
  dsimp only at h
  cases ha:bp (ld s) with
  | true=>rw [ha,cond_true] at h;cases h
  | false=>rw [ha,cond_false] at h;cases h;omega
 ·rw [h1] at h;cases h;exact hg
theorem JD {p z:Int} (hz:lN z=true):mN (z,p) (-z,p)=some (true,()):=by
 have h:=qh.1 hz
 have:=Es
 unfold mN JB
 rw [Option.bind_some]
 dsimp only
 rw [aI (by omega) (by omega),show 0 - -z=z by omega]
 simp
theorem IQ (v:ai) (n:List UInt8) (d:Int):jM v n d=some (true,()):=by
 unfold jM
 rw [DC,Option.bind_some]
 by_cases hr:(G7 v n d).2.1=0
 ·have hx:jc v=0∧qq n=true∧n≠v.1∧v.2.2.1≤d∧d≤3652059∧jc (kN v n d)=0∧G7 v n d=(kN v n d,0,()):=by
   unfold G7 at hr ⊢
   by_cases h0:jc v=0
   ·rw [if_neg (by simpa using h0)] at hr ⊢
    cases hn:qq n with
    | false=>rw [hn,if_pos rfl] at hr;cases hr
    | true=>
     rw [hn,if_neg (by simp)] at hr
     rw [if_neg (by simp)]
     by_cases he:n=v.1
     ·rw [if_pos he] at hr;cases hr
     ·rw [if_neg he] at hr ⊢
      by_cases hd:d<v.2.2.1∨3652059<d
      ·rw [if_pos hd] at hr;cases hr
      ·rw [if_neg hd] at hr ⊢
       by_cases h1:jc (kN v n d)=0
       ·rw [if_neg (by simpa using h1)]
        exact ⟨h0,rfl,he,by omega,by omega,h1,rfl⟩
       ·rw [if_pos h1] at hr
        exact absurd hr h1
   ·rw [if_pos h0] at hr
    exact absurd hr h0
  obtain ⟨h0,hn,he,hd1,hd2,h1,e⟩:=hx
  obtain ⟨hnm,hdy⟩:=PF h0
  have hb:G7 (kN v n d) v.1 d=((v.1,v.2.1,d,v.2.2.2),0,()):=by
   have h2:=Va h0 (d:=d) (by omega) hd2
   unfold G7
   rw [if_neg (by simpa using h1),hnm,if_neg (by simp),if_neg (fun h=>he h.symm),if_neg (by show ¬(d<d∨3652059<d);omega),TZ,if_neg (by simpa using h2)]
  rw [e]
  dsimp only
  rw [show ((0:Int) != 0)=false from rfl,cond_false,DC,hb,Option.bind_some]
  dsimp only
  rw [show ((0:Int) != 0)=false from rfl,cond_false,KS,Option.bind_some]
  dsimp only
  rw [Bool.not_true,cond_false,show ((v.1,v.2.1,v.2.2.1,v.2.2.2):ai)=v from rfl,UA h0,Option.bind_some]
  dsimp only
  rw [Bool.not_true,cond_false,FM,Option.bind_some,FM,Option.bind_some]
  by_cases w5:v.2.2.2.2.1=5
  ·rw [show (v.2.2.2.2.1==5)=true by simpa using w5,cond_true]
  ·rw [show (v.2.2.2.2.1==5)=false by simpa using w5,cond_false]
   by_cases w6:v.2.2.2.2.1=6
   ·rw [show (v.2.2.2.2.1==6)=true by simpa using w6,cond_true]
   ·rw [show (v.2.2.2.2.1==6)=false by simpa using w6,cond_false]
    have hv:=BN h0
    have ht:=RY (v:=v) ⟨w5,w6⟩ hv n d
    unfold NM
    rw [if_neg (by simpa using h0),if_neg (by simpa using h1),ht]
    cases hz:tq v with
    | inl f=>
     dsimp only [PT]
     rw [show (f != f)=false by simp,cond_false]
     by_cases hf:f=0
     ·exact absurd hf (Om h0 hz)
     ·rw [show (f != 0)=true by simpa using hf,cond_true]
    | inr s=>
     dsimp only [PT]
     rw [show ((0:Int) != 0)=false from rfl,cond_false,cond_false]
     have hal:bp (ld s)=true:=SG hz
     have ha:∀ z∈ld s,lN z=true:=WA.1 hal
     have e5:Pk (kN v n d) (Sx s)=((-s.nets.sum,vPl v),(-s.am.sum,vPl v),(-(s.nets.sum+s.am.sum),vPl v),(-s.taxes.sum,vPl v),(-(s.nets.sum+s.am.sum+s.taxes.sum),vPl v)):=by
      have h5:=Qn s
      unfold ld at h5
      simp only [Xf,Xg,List.cons.injEq,and_true] at h5
      obtain ⟨a1,a2,a3,a4,a5⟩:=h5
      unfold Pk EA
      rw [a1,a2,a4,show -s.nets.sum+ -s.am.sum= -(s.nets.sum+s.am.sum) by omega,show -(s.nets.sum+s.am.sum)+ -s.taxes.sum= -(s.nets.sum+s.am.sum+s.taxes.sum) by omega]
      rfl
     rw [e5]
     unfold Pk EA
     dsimp only
     rw [JD (ha _ (by simp [ld])),Option.bind_some]
     dsimp only
     rw [cond_true,JD (ha _ (by simp [ld])),Option.bind_some]
     dsimp only
     rw [cond_true,JD (ha _ (by simp [ld])),Option.bind_some]
     dsimp only
     rw [cond_true,JD (ha _ (by simp [ld])),Option.bind_some]
     dsimp only
     rw [cond_true,JD (ha _ (by simp [ld])),Option.bind_some]
 ·have hz:∃ f,G7 v n d=(zeroV,f,()):=by
   unfold G7 at hr ⊢
   split
   ·exact ⟨_,rfl⟩
   split
   ·exact ⟨_,rfl⟩
   split
   ·exact ⟨_,rfl⟩
   split
   ·exact ⟨_,rfl⟩
   split
   ·exact ⟨_,rfl⟩
   ·rename_i h1 h2 h3 h4 h5
    rw [if_neg h1,if_neg h2,if_neg h3,if_neg h4,if_neg h5] at hr
    exact absurd rfl hr
  obtain ⟨f,e⟩:=hz
  have hf:f≠0:=by rw [e] at hr;exact hr
  rw [e]
  dsimp only
  rw [show (f != 0)=true by simpa using hf,cond_true,KS]
  rfl
end Go.Md
