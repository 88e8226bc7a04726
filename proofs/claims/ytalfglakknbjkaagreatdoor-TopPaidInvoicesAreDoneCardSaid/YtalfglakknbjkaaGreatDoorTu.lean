/-
  Plain facts: the sheet of an invoice, by the program; the plain law TopPaidInvoicesAreDone is true of all data. No condition.
-/
import Derived.Test.YtalfglakknbjkaaGreatDoorTt
import Derived.Test.YtalfglakknbjkaaGreatDoorTn
import Derived.Test.YtalfglakknbjkaaGreatDoorTq
set_option linter.all false
namespace Go.Md
open Go.Dn
theorem CA (z:Int):jU (W z)=some (rU z,()):=zW z
theorem uQ {zs:List Int} {i:Nat} {z:Int} (h:zs[i]? =some z):bB (zs.take (i+1))=(bB (zs.take i)&&rU z):=by
 unfold bB
 rw [X0,h,List.all_append];simp
theorem BO {zs:List Int} {i:Nat} {z:Int} (h:zs[i]? =some z) (hz:rU z=false):bB zs=false:=by
 unfold bB
 rw [List.all_eq_false]
 exact ⟨z,List.mem_of_getElem? h,by simp [hz]⟩
theorem contains_eq (zs:List Int) (hl:zs.length≤1000):jr (zs.map W) ()=some (!bB zs,()):=by
 unfold jr nV
 have loop:∀ f,zs.length<f→(bB zs=true∧iter f ((zs.map W,(),(zs.length:Int),(0:Int),()):gC) gz=some (Sum.inr ()))∨
  (bB zs=false∧∃ j:Nat,iter f ((zs.map W,(),(zs.length:Int),(0:Int),()):gC) gz=some (Sum.inl ((j:Int),()))):=by
  intro f hf
  refine bN (Inv:=fun i X=>X=(zs.map W,(),(zs.length:Int),(i:Int),())∧bB (zs.take i)=true) zs.length (fun r=>(bB zs=true∧r=some (Sum.inr ()))∨(bB zs=false∧∃ j:Nat,r=some (Sum.inl ((j:Int),())))) ?_ ?_ f 0 _ ⟨rfl,rfl⟩ (by omega) (by omega)
  ·rintro i _ again hi ⟨rfl,hal⟩ ih
   unfold gz
   dsimp only
   have hz:zs[i]? =some zs[i]:=aO hi
   generalize zs[i]=z at hz
   rw [az (by omega),bF,List.getElem?_map,hz,YB,Option.bind_some]
   unfold tE
   rw [CA,Option.bind_some,Option.bind_some]
   dsimp only
   cases h:rU z with
   | true=>
    rw [Bool.not_true,cond_false,au (by omega) (by omega)]
    exact ih _ ⟨rfl,by rw [uQ hz,hal,h];rfl⟩
   | false=>exact .inr ⟨BO hz h,i,rfl⟩
  ·rintro _ again ⟨rfl,hal⟩
   unfold gz
   dsimp only
   rw [X3 (Yc _)] at hal
   rw [ay (by omega)]
   exact .inl ⟨hal,rfl⟩
 rw [Xu]
 rcases loop (zs.length+(Int.natAbs ((zs.length:Int))+(Int.natAbs (0:Int)+2))) (by omega) with ⟨h,e⟩ | ⟨h,j,e⟩
 ·rw [e,aE,Option.bind_some,h];rfl
 ·rw [e,iV,Option.bind_some,h]
  dsimp only
  rw [YH (show (j:Int)≥0 by omega)];rfl
theorem IG (zs:List Int) (hl:zs.length≤1000):bO (zs.map W) ()=some (!bB zs,()):=by
 unfold bO mJ
 have loop:∀ f,zs.length<f→(bB zs=true∧iter f ((zs.map W,(),(zs.length:Int),(0:Int),()):fy) ff=some (Sum.inr ()))∨
  (bB zs=false∧∃ j:Nat,iter f ((zs.map W,(),(zs.length:Int),(0:Int),()):fy) ff=some (Sum.inl ((j:Int),()))):=by
  intro f hf
  refine bN (Inv:=fun i X=>X=(zs.map W,(),(zs.length:Int),(i:Int),())∧bB (zs.take i)=true) zs.length (fun r=>(bB zs=true∧r=some (Sum.inr ()))∨(bB zs=false∧∃ j:Nat,r=some (Sum.inl ((j:Int),())))) ?_ ?_ f 0 _ ⟨rfl,rfl⟩ (by omega) (by omega)
  ·rintro i _ again hi ⟨rfl,hal⟩ ih
   unfold ff
   dsimp only
   have hz:zs[i]? =some zs[i]:=aO hi
   generalize zs[i]=z at hz
   rw [az (by omega),bF,List.getElem?_map,hz,YB,Option.bind_some]
   unfold vp
   rw [CA,Option.bind_some,Option.bind_some]
   dsimp only
   cases h:rU z with
   | true=>
    rw [Bool.not_true,cond_false,au (by omega) (by omega)]
    exact ih _ ⟨rfl,by rw [uQ hz,hal,h];rfl⟩
   | false=>exact .inr ⟨BO hz h,i,rfl⟩
  ·rintro _ again ⟨rfl,hal⟩
   unfold ff
   dsimp only
   rw [X3 (Yc _)] at hal
   rw [ay (by omega)]
   exact .inl ⟨hal,rfl⟩
 rw [Xu]
 rcases loop (zs.length+(Int.natAbs ((zs.length:Int))+(Int.natAbs (0:Int)+2))) (by omega) with ⟨h,e⟩ | ⟨h,j,e⟩
 ·rw [e,aE,Option.bind_some,h];rfl
 ·rw [e,iV,Option.bind_some,h]
  dsimp only
  rw [YH (show (j:Int)≥0 by omega)];rfl
theorem Px (zs:List Int) (hl:zs.length≤1000):iN (zs.map W) ()=some (!bB zs,()):=by
 unfold iN mQ
 have loop:∀ f,zs.length<f→(bB zs=true∧iter f ((zs.map W,(),(zs.length:Int),(0:Int),()):fh) fk=some (Sum.inr ()))∨
  (bB zs=false∧∃ j:Nat,iter f ((zs.map W,(),(zs.length:Int),(0:Int),()):fh) fk=some (Sum.inl ((j:Int),()))):=by
  intro f hf
  refine bN (Inv:=fun i X=>X=(zs.map W,(),(zs.length:Int),(i:Int),())∧bB (zs.take i)=true) zs.length (fun r=>(bB zs=true∧r=some (Sum.inr ()))∨(bB zs=false∧∃ j:Nat,r=some (Sum.inl ((j:Int),())))) ?_ ?_ f 0 _ ⟨rfl,rfl⟩ (by omega) (by omega)
  ·rintro i _ again hi ⟨rfl,hal⟩ ih
   unfold fk
   dsimp only
   have hz:zs[i]? =some zs[i]:=aO hi
   generalize zs[i]=z at hz
   rw [az (by omega),bF,List.getElem?_map,hz,YB,Option.bind_some]
   unfold yR
   rw [CA,Option.bind_some,Option.bind_some]
   dsimp only
   cases h:rU z with
   | true=>
    rw [Bool.not_true,cond_false,au (by omega) (by omega)]
    exact ih _ ⟨rfl,by rw [uQ hz,hal,h];rfl⟩
   | false=>exact .inr ⟨BO hz h,i,rfl⟩
  ·rintro _ again ⟨rfl,hal⟩
   unfold fk
   dsimp only
   rw [X3 (Yc _)] at hal
   rw [ay (by omega)]
   exact .inl ⟨hal,rfl⟩
 rw [Xu]
 rcases loop (zs.length+(Int.natAbs ((zs.length:Int))+(Int.natAbs (0:Int)+2))) (by omega) with ⟨h,e⟩ | ⟨h,j,e⟩
 ·rw [e,aE,Option.bind_some,h];rfl
 ·rw [e,iV,Option.bind_some,h]
  dsimp only
  rw [YH (show (j:Int)≥0 by omega)];rfl
theorem PK (zs:List Int) (hl:zs.length≤1000):iM (zs.map W) ()=some (!bB zs,()):=by
 unfold iM mI
 have loop:∀ f,zs.length<f→(bB zs=true∧iter f ((zs.map W,(),(zs.length:Int),(0:Int),()):fj) fo=some (Sum.inr ()))∨
  (bB zs=false∧∃ j:Nat,iter f ((zs.map W,(),(zs.length:Int),(0:Int),()):fj) fo=some (Sum.inl ((j:Int),()))):=by
  intro f hf
  refine bN (Inv:=fun i X=>X=(zs.map W,(),(zs.length:Int),(i:Int),())∧bB (zs.take i)=true) zs.length (fun r=>(bB zs=true∧r=some (Sum.inr ()))∨(bB zs=false∧∃ j:Nat,r=some (Sum.inl ((j:Int),())))) ?_ ?_ f 0 _ ⟨rfl,rfl⟩ (by omega) (by omega)
  ·rintro i _ again hi ⟨rfl,hal⟩ ih
   unfold fo
   dsimp only
   have hz:zs[i]? =some zs[i]:=aO hi
   generalize zs[i]=z at hz
   rw [az (by omega),bF,List.getElem?_map,hz,YB,Option.bind_some]
   unfold uz
   rw [CA,Option.bind_some,Option.bind_some]
   dsimp only
   cases h:rU z with
   | true=>
    rw [Bool.not_true,cond_false,au (by omega) (by omega)]
    exact ih _ ⟨rfl,by rw [uQ hz,hal,h];rfl⟩
   | false=>exact .inr ⟨BO hz h,i,rfl⟩
  ·rintro _ again ⟨rfl,hal⟩
   unfold fo
   dsimp only
   rw [X3 (Yc _)] at hal
   rw [ay (by omega)]
   exact .inl ⟨hal,rfl⟩
 rw [Xu]
 rcases loop (zs.length+(Int.natAbs ((zs.length:Int))+(Int.natAbs (0:Int)+2))) (by omega) with ⟨h,e⟩ | ⟨h,j,e⟩
 ·rw [e,aE,Option.bind_some,h];rfl
 ·rw [e,iV,Option.bind_some,h]
  dsimp only
  rw [YH (show (j:Int)≥0 by omega)];rfl
theorem Ok (l:List aa) (hl:l.length≤1000):m8 l=some (l,()):=by
 unfold m8
 have hc:(decide ((0+l.length)*32≤140737488355328)&&decide (0+l.length≤maxLen))=true:=by
  simp only [Wo,decide_eq_true_eq];rw [OR];omega
 rw [aH hc]
 cases l with
 | nil=>exact Pf _
 | cons x r=>rfl
def shW (p:Nat×Int):aF:=((p.1:Int),W p.2)
def cW (n:Nat) (fl:List Nat):List Bool:=(List.range n).map fun k=>fl.contains k
theorem qT (n:Nat) (fl:List Nat):(cW n fl).length=n:=by simp [cW]
theorem UL (n:Nat):cW n []=List.replicate n false:=by
 unfold cW
 apply W8
 intro i
 by_cases hi:i<n
 ·rw [List.getElem?_map,Xh hi,Xi,if_pos hi];rfl
 ·rw [Xg (by simp;omega),Xg (by simp;omega)]
theorem EW {n k:Nat} (fl:List Nat):(cW n fl).set k true=cW n (fl++[k]):=by
 apply W8
 intro i
 by_cases hi:i<n
 ·have e:∀ f,(cW n f)[i]? =some (f.contains i):=fun f=>by unfold cW;rw [List.getElem?_map,Xh hi];rfl
  rw [e]
  by_cases h:k=i
  ·subst h
   rw [Xl (by rw [qT];exact hi)];simp
  ·rw [Xk h,e]
   simp [show ¬ i=k from fun x=>h x.symm]
 ·rw [Xg (by rw [Xy,qT];omega),Xg (by rw [qT];omega)]
theorem En {n k:Nat} (fl:List Nat) (h:k<n):(cW n fl)[k]? =some (fl.contains k):=by
 unfold cW;rw [List.getElem?_map,Xh h];rfl
theorem Rm (n:Nat):(aW n []).map W=List.replicate n (false,[]):=by
 apply W8
 intro i
 by_cases hi:i<n
 ·rw [List.getElem?_map,ux _ hi,Xi,if_pos hi];rfl
 ·rw [Xg (by rw [Xu,iS];omega),Xg (by simp;omega)]
def Bx (v:aj) (nets lines bases:List Int) (sh:Br) (am:List Int) (has:List Bool) (tx:List Int):aj×(List aa)×(List aa)×(List aa)×(List aF)×(List aa)×(List Bool)×(List aa)×Unit:=
 (v,nets.map W,lines.map W,bases.map W,sh.map shW,am.map W,has,tx.map W,())
theorem C3 (v:aj):∀ (a b:List ax),gY v (a++b)=match gY v a with | some l=>(gY v b).map (l++ ·) | none=>none
 | [],b=>by simp [gY]
 | x::a,b=>by
  simp only [WY,gY]
  cases C8 v x with
  | none=>rfl
  | some n=>
   dsimp only
   rw [C3 v a b]
   cases gY v a with
   | none=>rfl
   | some l=>cases gY v b<;>rfl
def PR (v:aj) (x:ax):Nat:=(jM (·.1) x.2.2.2.2.2.2.2.2 (aA v)).getD 0
theorem Rj {v:aj} {l:List ax} {i:Nat} {x:ax} (hx:l[i]? =some x) {b:Br} (h:gY v (l.take i)=some b):
 gY v (l.take (i+1))=(C8 v x).map fun n=>b++[(PR v x,n)]:=by
 rw [X0,hx,C3,h]
 simp only [Option.toList,gY]
 cases C8 v x<;>rfl
theorem RD {v:aj} {l:List ax} {i:Nat} (h:gY v (l.take i)=none):gY v l=none:=by
 have:=C3 v (l.take i) (l.drop i)
 rw [X1,h] at this
 exact this
theorem Ih:MU=1000000000000000:=rfl
structure jv (n:Nat) (b:Br):Prop where
 ix:∀ p∈b,p.1<n
 am:∀ p∈b,(p.2.natAbs:Int)≤MU
theorem VM {n:Nat} {b:Br} (h:jv n b) (k:Nat):(atB b k).natAbs≤b.length*1000000000000000:=by
 have am:=h.am
 have hMU:=Ih
 clear h
 induction b with
 | nil=>simp [atB]
 | cons p b ih=>
  have h1:=ih fun q hq=>am q (XH _ hq)
  have h2:=am p XI
  simp only [atB,Xs,X6,Yp]
  split<;>omega
theorem Q6 {n:Nat} {b:Br} (h:jv n b) (hl:b.length≤2000) (k:Nat):Le 19 (atB b k):=by
 have h1:=VM h k
 have h2:b.length*1000000000000000≤2000*1000000000000000:=Yn _ hl
 exact Le.int (by omega) (by omega)
theorem DD {z:Int} (h:(z.natAbs:Int)≤MU):Le 19 z:=by
 have:=Ih
 exact Le.int (by omega) (by omega)
theorem QK {v:aj} (hv:oL v) (f:Nat) (hf:(cK v).length<f) (b0:List aa) (a0 t0:List aa):
 (∃ lb,gY v (cK v)=some lb∧jv (aA v).length lb∧lb.length=(cK v).length∧iter f ((cK v,((cK v).length:Int),(0:Int),v.1,v.2.1,v.2.2.1,v.2.2.2.1,v.2.2.2.2.1,v.2.2.2.2.2.1,v.2.2.2.2.2.2.1,v.2.2.2.2.2.2.2.1,v.2.2.2.2.2.2.2.2,([]:List aa),([]:List aF),List.replicate (Int.toNat ((aA v).length:Int)) ((false,[]):aa),List.replicate (Int.toNat ((aA v).length:Int)) false,b0,a0,t0,()):jl) lz=some (Sum.inr (v.1,v.2.1,v.2.2.1,v.2.2.2.1,v.2.2.2.2.1,v.2.2.2.2.2.1,v.2.2.2.2.2.2.1,v.2.2.2.2.2.2.2.1,v.2.2.2.2.2.2.2.2,(lb.map (·.2)).map W,lb.map shW,(aW (aA v).length lb).map W,cW (aA v).length (lb.map (·.1)),b0,a0,t0,())))∨
 (gY v (cK v)=none∧∃ b,iter f ((cK v,((cK v).length:Int),(0:Int),v.1,v.2.1,v.2.2.1,v.2.2.2.1,v.2.2.2.2.1,v.2.2.2.2.2.1,v.2.2.2.2.2.2.1,v.2.2.2.2.2.2.2.1,v.2.2.2.2.2.2.2.2,([]:List aa),([]:List aF),List.replicate (Int.toNat ((aA v).length:Int)) ((false,[]):aa),List.replicate (Int.toNat ((aA v).length:Int)) false,b0,a0,t0,()):jl) lz=some (Sum.inl (1,b,()))):=by
 have hrn:0<(aA v).length∧(aA v).length≤20:=hv.rn
 have hln:0<(cK v).length∧(cK v).length≤500:=hv.ln
 refine bN (Inv:=fun i X=>∃ lb,gY v ((cK v).take i)=some lb∧jv (aA v).length lb∧lb.length=i∧X=((cK v,((cK v).length:Int),(i:Int),v.1,v.2.1,v.2.2.1,v.2.2.2.1,v.2.2.2.2.1,v.2.2.2.2.2.1,v.2.2.2.2.2.2.1,v.2.2.2.2.2.2.2.1,v.2.2.2.2.2.2.2.2,(lb.map (·.2)).map W,lb.map shW,(aW (aA v).length lb).map W,cW (aA v).length (lb.map (·.1)),b0,a0,t0,()):jl)) (cK v).length
  (fun r=>(∃ lb,gY v (cK v)=some lb∧jv (aA v).length lb∧lb.length=(cK v).length∧r=some (Sum.inr (v.1,v.2.1,v.2.2.1,v.2.2.2.1,v.2.2.2.2.1,v.2.2.2.2.2.1,v.2.2.2.2.2.2.1,v.2.2.2.2.2.2.2.1,v.2.2.2.2.2.2.2.2,(lb.map (·.2)).map W,lb.map shW,(aW (aA v).length lb).map W,cW (aA v).length (lb.map (·.1)),b0,a0,t0,())))∨(gY v (cK v)=none∧∃ b,r=some (Sum.inl (1,b,())))) ?_ ?_ f 0 _ ⟨[],rfl,⟨by simp,by simp⟩,rfl, ?_⟩ (by omega) (by omega)
 ·rintro i _ again hi ⟨lb,h1,h2,h3,rfl⟩ ih
  unfold lz
  dsimp only
  have hx:(cK v)[i]? =some (cK v)[i]:=aO hi
  have hxm:=Xq hi
  generalize (cK v)[i]=x at hx hxm
  have hxo:=hv.lines x hxm
  have hstep:=Rj hx h1
  rw [az (by omega),bF,hx,Option.bind_some]
  rw [show (v.1,v.2.1,v.2.2.1,v.2.2.2.1,v.2.2.2.2.1,v.2.2.2.2.2.1,v.2.2.2.2.2.2.1,v.2.2.2.2.2.2.2.1,v.2.2.2.2.2.2.2.2)=v from rfl,RB hv hxo,Option.bind_some]
  dsimp only
  cases hn:C8 v x with
  | none=>
   rw [hn] at hstep
   exact .inr ⟨RD hstep,_,rfl⟩
  | some d=>
   rw [hn] at hstep
   obtain ⟨hd1,hd2⟩:=Pc hn
   rw [Yz,Bool.not_true,cond_false, ← hd1]
   obtain ⟨k,hk1,hk2⟩:=Bh (aA v) x.2.2.2.2.2.2.2.2 (by omega) hv.asc
   obtain ⟨k',hk'⟩:=Yy.1 hxo.rate
   obtain rfl:=hk2 k' hk'
   obtain ⟨rt,hrt,_⟩:=qs hk'
   have hkl:k<(aA v).length:=(List.getElem?_eq_some_iff.1 hrt).1
   have hrk:PR v x=k:=by unfold PR;rw [hk'];rfl
   rw [hk1,Option.bind_some]
   dsimp only
   have hcm:(cW (aA v).length (lb.map (·.1)))[k]? =some ((lb.map (·.1)).contains k):=En _ hkl
   have hbm:((aW (aA v).length lb).map W)[k]? =some (W (atB lb k)):=by rw [List.getElem?_map,ux _ hkl];rfl
   have hck:(decide (0≤(k:Int))&&decide ((k:Int)<(((aW (aA v).length lb).map W).length:Int)))=true:=by
    rw [Xu,iS];simp only [Wo,decide_eq_true_eq];omega
   rw [aH (lX (by simp;omega) (by simp;omega)),aH hck,WQ,hbm,Option.bind_some,dJ _ _ ((Q6 h2 (by omega) k).w (by omega)) ((DD hd2).w (by omega)),Option.bind_some,aH hck,Option.bind_some,aH (lX (by simp;omega) (by simp;omega)),aH (by rw [qT];simp only [Wo,decide_eq_true_eq];omega),hcm,Option.bind_some,au (by omega) (by omega)]
   refine ih _ ⟨lb++[(k,d)],by rw [hstep,hrk];rfl,⟨?_, ?_⟩,by simp [h3], ?_⟩
   ·intro p hp
    rcases XF.1 hp with hp | hp
    ·exact h2.ix p hp
    ·rw [XQ.1 hp];exact hkl
   ·intro p hp
    rcases XF.1 hp with hp | hp
    ·exact h2.am p hp
    ·rw [XQ.1 hp];exact hd2
   ·dsimp only
    rw [← XE,LO,EW]
    simp only [XA,XC,XD,shW]
    rfl
 ·rintro _ again ⟨lb,h1,h2,h3,rfl⟩
  unfold lz
  dsimp only
  rw [ay (by omega)]
  rw [X3 (Yc _)] at h1
  exact .inl ⟨lb,h1,h2,h3,rfl⟩
 ·simp only [XD,UL,Rm,WQ]
  rfl
theorem Nk {v:aj} (hv:oL v):
 (∃ lb,gY v (cK v)=some lb∧jv (aA v).length lb∧lb.length=(cK v).length∧bB (aW (aA v).length lb)=true∧ng (v,[],[],[],[],[],[],[],())=some (0,Bx v (lb.map (·.2)) (aW (aA v).length lb) (aW (aA v).length lb) lb [] (cW (aA v).length (lb.map (·.1))) [],()))∨
 ((gY v (cK v)=none∨∃ lb,gY v (cK v)=some lb∧bB (aW (aA v).length lb)=false)∧∃ b,ng (v,[],[],[],[],[],[],[],())=some (1,b,())):=by
 have hrn:0<(aA v).length∧(aA v).length≤20:=hv.rn
 have hrn':=hv.rn
 unfold ng
 dsimp only
 rw [aH (by simp only [Wo,decide_eq_true_eq];omega),aH (by simp only [Wo,decide_eq_true_eq];omega)]
 rcases QK hv ((cK v).length+(Int.natAbs (((cK v).length:Int))+(Int.natAbs (0:Int)+(v.1.length+(v.2.1.length+(v.2.2.1.natAbs+(v.2.2.2.1.natAbs+(v.2.2.2.2.1.natAbs+(v.2.2.2.2.2.2.1.length+(v.2.2.2.2.2.2.2.1.length+(v.2.2.2.2.2.2.2.2.length+(List.length ([]:List aa)+(List.length ([]:List aF)+(List.length (List.replicate (Int.toNat ((aA v).length:Int)) ((false,[]):aa))+(List.length (List.replicate (Int.toNat ((aA v).length:Int)) false)+(List.length ([]:List aa)+(List.length ([]:List aa)+(List.length ([]:List aa)+2)))))))))))))))))) (by omega) [] [] [] with ⟨lb,h1,h2,h3,e⟩ | ⟨h1,b,e⟩
 ·rw [e,aE]
  dsimp only
  have hbl:=iS (aA v).length lb
  rw [contains_eq _ (by rw [hbl];omega),Option.bind_some]
  dsimp only
  cases ha:bB (aW (aA v).length lb) with
  | true=>
   rw [Bool.not_true,cond_false,Ok _ (by rw [Xu,hbl];omega),Option.bind_some]
   exact .inl ⟨lb,h1,h2,h3,ha,rfl⟩
  | false=>exact .inr ⟨.inr ⟨lb,h1,ha⟩,_,rfl⟩
 ·rw [e,iV]
  exact .inr ⟨.inl h1,b,rfl⟩
end Go.Md
namespace Go.Md
open Go.Dn
def Sp (v5:((List Int)×Bool×Bool×(List Int)×(List UInt8)×(List UInt8)×Int×Int×Int×Bool×(List aJ)×(List ax)×(List aG)×(List aa)×(List aa)×(List aa)×(List aF)×(List aa)×(List Bool)×(List aa)×Unit)):Option (Int×(aj×(List aa)×(List aa)×(List aa)×(List aF)×(List aa)×(List Bool)×(List aa)×Unit)×Unit):=
 bif !v5.2.1 then
  Option.bind (gw ((v5.2.2.2.2.1,v5.2.2.2.2.2.1,v5.2.2.2.2.2.2.1,v5.2.2.2.2.2.2.2.1,v5.2.2.2.2.2.2.2.2.1,v5.2.2.2.2.2.2.2.2.2.1,v5.2.2.2.2.2.2.2.2.2.2.1,v5.2.2.2.2.2.2.2.2.2.2.2.1,v5.2.2.2.2.2.2.2.2.2.2.2.2.1),v5.2.2.2.2.2.2.2.2.2.2.2.2.2.2.1,v5.2.2.2.2.2.2.2.2.2.2.2.2.2.1,v5.2.2.2.2.2.2.2.2.2.2.2.2.2.2.2.1,v5.2.2.2.2.2.2.2.2.2.2.2.2.2.2.2.2.1,v5.2.2.2.2.2.2.2.2.2.2.2.2.2.2.2.2.2.1,v5.2.2.2.2.2.2.2.2.2.2.2.2.2.2.2.2.2.2.1,v5.2.2.2.2.2.2.2.2.2.2.2.2.2.2.2.2.2.2.2.1,()) 0 (v5.2.2.1,v5.2.2.2.1)) fun r6=>
  chk (decide (0≤(0:Int))&&decide ((0:Int)<(r6.1.2.2.2.2.2.2.1.length:Int))) <|
  Option.bind (r6.1.2.2.2.2.2.2.1[0]?) fun y7=>
  bif y7 then
   chk (decide (0≤(0:Int))&&decide ((0:Int)<(r6.1.2.2.2.2.2.2.1.length:Int))) <|
   Option.bind (r6.1.2.2.2.2.2.2.1[0]?) fun _=>
   some (0,(r6.1.1,r6.1.2.1,r6.1.2.2.1,r6.1.2.2.2.1,r6.1.2.2.2.2.1,r6.1.2.2.2.2.2.1,List.set r6.1.2.2.2.2.2.2.1 0 true,r6.1.2.2.2.2.2.2.2.1,()),())
  else
   Option.bind (aC (v5.2.2.1,v5.2.2.2.1)) fun r9=>
   chk (decide (0≤(0:Int))&&decide ((0:Int)<(r6.1.2.2.2.2.2.2.1.length:Int))) <|
   Option.bind (r6.1.2.2.2.2.2.2.1[0]?) fun _=>
   some (0,(r6.1.1,r6.1.2.1,r6.1.2.2.1,r6.1.2.2.2.1,r6.1.2.2.2.2.1,r6.1.2.2.2.2.2.1,List.set r6.1.2.2.2.2.2.2.1 0 (r9.1 != 0),r6.1.2.2.2.2.2.2.2.1,()),())
 else
  Option.bind (jK v5.1 ()) fun r11=>
  bif r11.1 then
   some (2,((v5.2.2.2.2.1,v5.2.2.2.2.2.1,v5.2.2.2.2.2.2.1,v5.2.2.2.2.2.2.2.1,v5.2.2.2.2.2.2.2.2.1,v5.2.2.2.2.2.2.2.2.2.1,v5.2.2.2.2.2.2.2.2.2.2.1,v5.2.2.2.2.2.2.2.2.2.2.2.1,v5.2.2.2.2.2.2.2.2.2.2.2.2.1),v5.2.2.2.2.2.2.2.2.2.2.2.2.2.2.1,v5.2.2.2.2.2.2.2.2.2.2.2.2.2.1,v5.2.2.2.2.2.2.2.2.2.2.2.2.2.2.2.1,v5.2.2.2.2.2.2.2.2.2.2.2.2.2.2.2.2.1,v5.2.2.2.2.2.2.2.2.2.2.2.2.2.2.2.2.2.1,v5.2.2.2.2.2.2.2.2.2.2.2.2.2.2.2.2.2.2.1,v5.2.2.2.2.2.2.2.2.2.2.2.2.2.2.2.2.2.2.2.1,()),())
  else
   Option.bind (lI (v5.2.2.1,v5.2.2.2.1) v5.2.2.2.2.2.2.2.1) fun r12=>
   Option.bind (ud r12.1 v5.1) fun r13=>
   bif r13.2.1 != 0 then
    some (r13.2.1,((v5.2.2.2.2.1,v5.2.2.2.2.2.1,v5.2.2.2.2.2.2.1,v5.2.2.2.2.2.2.2.1,v5.2.2.2.2.2.2.2.2.1,v5.2.2.2.2.2.2.2.2.2.1,v5.2.2.2.2.2.2.2.2.2.2.1,v5.2.2.2.2.2.2.2.2.2.2.2.1,v5.2.2.2.2.2.2.2.2.2.2.2.2.1),v5.2.2.2.2.2.2.2.2.2.2.2.2.2.2.1,v5.2.2.2.2.2.2.2.2.2.2.2.2.2.1,v5.2.2.2.2.2.2.2.2.2.2.2.2.2.2.2.1,v5.2.2.2.2.2.2.2.2.2.2.2.2.2.2.2.2.1,v5.2.2.2.2.2.2.2.2.2.2.2.2.2.2.2.2.2.1,v5.2.2.2.2.2.2.2.2.2.2.2.2.2.2.2.2.2.2.1,v5.2.2.2.2.2.2.2.2.2.2.2.2.2.2.2.2.2.2.2.1,()),())
   else
    aS (β:=(Int×(aj×(List aa)×(List aa)×(List aa)×(List aF)×(List aa)×(List Bool)×(List aa)×Unit)×Unit)) (γ:=((List UInt8)×(List UInt8)×Int×Int×Int×Bool×(List aJ)×(List ax)×(List aG)×(List aa)×(List aa)×(List aa)×(List aF)×(List aa)×(List Bool)×(List aa)×Unit)) (
     iter (X:=jk) (β:=nQ) (r13.1.length+(Int.natAbs ((r13.1.length:Int))+(Int.natAbs (0:Int)+(v5.2.2.2.2.1.length+(v5.2.2.2.2.2.1.length+(v5.2.2.2.2.2.2.1.natAbs+(v5.2.2.2.2.2.2.2.1.natAbs+(v5.2.2.2.2.2.2.2.2.1.natAbs+(v5.2.2.2.2.2.2.2.2.2.2.1.length+(v5.2.2.2.2.2.2.2.2.2.2.2.1.length+(v5.2.2.2.2.2.2.2.2.2.2.2.2.1.length+(v5.2.2.2.2.2.2.2.2.2.2.2.2.2.2.1.length+(v5.2.2.2.2.2.2.2.2.2.2.2.2.2.1.length+(v5.2.2.2.2.2.2.2.2.2.2.2.2.2.2.2.1.length+(v5.2.2.2.2.2.2.2.2.2.2.2.2.2.2.2.2.1.length+(v5.2.2.2.2.2.2.2.2.2.2.2.2.2.2.2.2.2.1.length+(v5.2.2.2.2.2.2.2.2.2.2.2.2.2.2.2.2.2.2.1.length+(v5.2.2.2.2.2.2.2.2.2.2.2.2.2.2.2.2.2.2.2.1.length+2)))))))))))))))))) (r13.1,(r13.1.length:Int),0,v5.2.2.2.2.1,v5.2.2.2.2.2.1,v5.2.2.2.2.2.2.1,v5.2.2.2.2.2.2.2.1,v5.2.2.2.2.2.2.2.2.1,v5.2.2.2.2.2.2.2.2.2.1,v5.2.2.2.2.2.2.2.2.2.2.1,v5.2.2.2.2.2.2.2.2.2.2.2.1,v5.2.2.2.2.2.2.2.2.2.2.2.2.1,v5.2.2.2.2.2.2.2.2.2.2.2.2.2.2.1,v5.2.2.2.2.2.2.2.2.2.2.2.2.2.1,v5.2.2.2.2.2.2.2.2.2.2.2.2.2.2.2.1,v5.2.2.2.2.2.2.2.2.2.2.2.2.2.2.2.2.1,v5.2.2.2.2.2.2.2.2.2.2.2.2.2.2.2.2.2.1,v5.2.2.2.2.2.2.2.2.2.2.2.2.2.2.2.2.2.2.1,v5.2.2.2.2.2.2.2.2.2.2.2.2.2.2.2.2.2.2.2.1,()) (kQ)) fun v19=>
    some (0,((v19.1,v19.2.1,v19.2.2.1,v19.2.2.2.1,v19.2.2.2.2.1,v19.2.2.2.2.2.1,v19.2.2.2.2.2.2.1,v19.2.2.2.2.2.2.2.1,v19.2.2.2.2.2.2.2.2.1),v19.2.2.2.2.2.2.2.2.2.1,v19.2.2.2.2.2.2.2.2.2.2.1,v19.2.2.2.2.2.2.2.2.2.2.2.1,v19.2.2.2.2.2.2.2.2.2.2.2.2.1,v19.2.2.2.2.2.2.2.2.2.2.2.2.2.1,v19.2.2.2.2.2.2.2.2.2.2.2.2.2.2.1,v19.2.2.2.2.2.2.2.2.2.2.2.2.2.2.2.1,()),())
def OP (v8:(Int×Bool×Bool×Int×Int×(List UInt8)×Bool×(List Int)×(List UInt8)×(List UInt8)×Int×Int×Int×Bool×(List aJ)×(List ax)×(List aG)×(List aa)×(List aa)×(List aa)×(List aF)×(List aa)×(List Bool)×(List aa)×Unit)):Option (Int×(aj×(List aa)×(List aa)×(List aa)×(List aF)×(List aa)×(List Bool)×(List aa)×Unit)×Unit):=
 Option.bind (qa (v8.2.2.2.1,v8.2.2.2.2.1) (if v8.2.2.2.2.1>v8.2.2.2.2.2.2.2.2.2.2.2.1 then v8.2.2.2.2.1 else v8.2.2.2.2.2.2.2.2.2.2.2.1)) fun r9=>
 aS (β:=(Int×(aj×(List aa)×(List aa)×(List aa)×(List aF)×(List aa)×(List Bool)×(List aa)×Unit)×Unit)) (γ:=(Int×Bool×Bool×(List Int)×(List UInt8)×(List UInt8)×Int×Int×Int×Bool×(List aJ)×(List ax)×(List aG)×(List aa)×(List aa)×(List aa)×(List aF)×(List aa)×(List Bool)×(List aa)×Unit)) (
  bif v8.2.2.1 then
   Option.bind (qN (v8.2.2.2.2.2.2.2.2.1,v8.2.2.2.2.2.2.2.2.2.1,v8.2.2.2.2.2.2.2.2.2.2.1,v8.2.2.2.2.2.2.2.2.2.2.2.1,v8.2.2.2.2.2.2.2.2.2.2.2.2.1,v8.2.2.2.2.2.2.2.2.2.2.2.2.2.1,v8.2.2.2.2.2.2.2.2.2.2.2.2.2.2.1,v8.2.2.2.2.2.2.2.2.2.2.2.2.2.2.2.1,v8.2.2.2.2.2.2.2.2.2.2.2.2.2.2.2.2.1) (v8.2.2.2.2.2.2.1,v8.2.2.2.2.2.2.2.1) (v8.2.2.2.1,v8.2.2.2.2.1)) fun r10=>
   some (Sum.inr (v8.1,v8.2.1,r10.1.1,r10.1.2,v8.2.2.2.2.2.2.2.2.1,v8.2.2.2.2.2.2.2.2.2.1,v8.2.2.2.2.2.2.2.2.2.2.1,v8.2.2.2.2.2.2.2.2.2.2.2.1,v8.2.2.2.2.2.2.2.2.2.2.2.2.1,v8.2.2.2.2.2.2.2.2.2.2.2.2.2.1,v8.2.2.2.2.2.2.2.2.2.2.2.2.2.2.1,v8.2.2.2.2.2.2.2.2.2.2.2.2.2.2.2.1,v8.2.2.2.2.2.2.2.2.2.2.2.2.2.2.2.2.1,v8.2.2.2.2.2.2.2.2.2.2.2.2.2.2.2.2.2.1,v8.2.2.2.2.2.2.2.2.2.2.2.2.2.2.2.2.2.2.1,v8.2.2.2.2.2.2.2.2.2.2.2.2.2.2.2.2.2.2.2.1,v8.2.2.2.2.2.2.2.2.2.2.2.2.2.2.2.2.2.2.2.2.1,v8.2.2.2.2.2.2.2.2.2.2.2.2.2.2.2.2.2.2.2.2.2.1,v8.2.2.2.2.2.2.2.2.2.2.2.2.2.2.2.2.2.2.2.2.2.2.1,v8.2.2.2.2.2.2.2.2.2.2.2.2.2.2.2.2.2.2.2.2.2.2.2.1,()))
  else
   some (Sum.inr (v8.1,v8.2.1,r9.1.1,r9.1.2,v8.2.2.2.2.2.2.2.2.1,v8.2.2.2.2.2.2.2.2.2.1,v8.2.2.2.2.2.2.2.2.2.2.1,v8.2.2.2.2.2.2.2.2.2.2.2.1,v8.2.2.2.2.2.2.2.2.2.2.2.2.1,v8.2.2.2.2.2.2.2.2.2.2.2.2.2.1,v8.2.2.2.2.2.2.2.2.2.2.2.2.2.2.1,v8.2.2.2.2.2.2.2.2.2.2.2.2.2.2.2.1,v8.2.2.2.2.2.2.2.2.2.2.2.2.2.2.2.2.1,v8.2.2.2.2.2.2.2.2.2.2.2.2.2.2.2.2.2.1,v8.2.2.2.2.2.2.2.2.2.2.2.2.2.2.2.2.2.2.1,v8.2.2.2.2.2.2.2.2.2.2.2.2.2.2.2.2.2.2.2.1,v8.2.2.2.2.2.2.2.2.2.2.2.2.2.2.2.2.2.2.2.2.1,v8.2.2.2.2.2.2.2.2.2.2.2.2.2.2.2.2.2.2.2.2.2.1,v8.2.2.2.2.2.2.2.2.2.2.2.2.2.2.2.2.2.2.2.2.2.2.1,v8.2.2.2.2.2.2.2.2.2.2.2.2.2.2.2.2.2.2.2.2.2.2.2.1,()))) fun v11=>
 Option.bind (jU (v11.2.2.1,v11.2.2.2.1)) fun r12=>
 bif !r12.1 then
  some (1,((v11.2.2.2.2.1,v11.2.2.2.2.2.1,v11.2.2.2.2.2.2.1,v11.2.2.2.2.2.2.2.1,v11.2.2.2.2.2.2.2.2.1,v11.2.2.2.2.2.2.2.2.2.1,v11.2.2.2.2.2.2.2.2.2.2.1,v11.2.2.2.2.2.2.2.2.2.2.2.1,v11.2.2.2.2.2.2.2.2.2.2.2.2.1),v11.2.2.2.2.2.2.2.2.2.2.2.2.2.2.1,v11.2.2.2.2.2.2.2.2.2.2.2.2.2.1,v11.2.2.2.2.2.2.2.2.2.2.2.2.2.2.2.1,v11.2.2.2.2.2.2.2.2.2.2.2.2.2.2.2.2.1,v11.2.2.2.2.2.2.2.2.2.2.2.2.2.2.2.2.2.1,v11.2.2.2.2.2.2.2.2.2.2.2.2.2.2.2.2.2.2.1,v11.2.2.2.2.2.2.2.2.2.2.2.2.2.2.2.2.2.2.2.1,()),())
 else
  chk (decide (((v11.2.2.2.2.2.2.2.2.2.2.2.2.2.2.2.2.2.1.length)+1)*32≤140737488355328)&&decide ((v11.2.2.2.2.2.2.2.2.2.2.2.2.2.2.2.2.2.1.length)+1≤maxLen)) <|
  bif v11.2.1 then
   Option.bind (gw ((v11.2.2.2.2.1,v11.2.2.2.2.2.1,v11.2.2.2.2.2.2.1,v11.2.2.2.2.2.2.2.1,v11.2.2.2.2.2.2.2.2.1,v11.2.2.2.2.2.2.2.2.2.1,v11.2.2.2.2.2.2.2.2.2.2.1,v11.2.2.2.2.2.2.2.2.2.2.2.1,v11.2.2.2.2.2.2.2.2.2.2.2.2.1),v11.2.2.2.2.2.2.2.2.2.2.2.2.2.2.1,v11.2.2.2.2.2.2.2.2.2.2.2.2.2.1,v11.2.2.2.2.2.2.2.2.2.2.2.2.2.2.2.1,v11.2.2.2.2.2.2.2.2.2.2.2.2.2.2.2.2.1,v11.2.2.2.2.2.2.2.2.2.2.2.2.2.2.2.2.2.1++[(v11.2.2.1,v11.2.2.2.1)],v11.2.2.2.2.2.2.2.2.2.2.2.2.2.2.2.2.2.2.1,v11.2.2.2.2.2.2.2.2.2.2.2.2.2.2.2.2.2.2.2.1,()) v11.1 (v11.2.2.1,v11.2.2.2.1)) fun r13=>
   chk (decide (0≤v11.1)&&decide (v11.1<(r13.1.2.2.2.2.2.2.1.length:Int))) <|
   Option.bind (r13.1.2.2.2.2.2.2.1[v11.1.toNat]?) fun _=>
   Option.bind (bO r13.1.2.2.2.1 ()) fun r15=>
   bif r15.1 then
    some (1,(r13.1.1,r13.1.2.1,r13.1.2.2.1,r13.1.2.2.2.1,r13.1.2.2.2.2.1,r13.1.2.2.2.2.2.1,List.set r13.1.2.2.2.2.2.2.1 v11.1.toNat true,r13.1.2.2.2.2.2.2.2.1,()),())
   else
    some (0,(r13.1.1,r13.1.2.1,r13.1.2.2.1,r13.1.2.2.2.1,r13.1.2.2.2.2.1,r13.1.2.2.2.2.2.1,List.set r13.1.2.2.2.2.2.2.1 v11.1.toNat true,r13.1.2.2.2.2.2.2.2.1,()),())
  else
   Option.bind (iW ((v11.2.2.2.2.1,v11.2.2.2.2.2.1,v11.2.2.2.2.2.2.1,v11.2.2.2.2.2.2.2.1,v11.2.2.2.2.2.2.2.2.1,v11.2.2.2.2.2.2.2.2.2.1,v11.2.2.2.2.2.2.2.2.2.2.1,v11.2.2.2.2.2.2.2.2.2.2.2.1,v11.2.2.2.2.2.2.2.2.2.2.2.2.1),v11.2.2.2.2.2.2.2.2.2.2.2.2.2.2.1,v11.2.2.2.2.2.2.2.2.2.2.2.2.2.1,v11.2.2.2.2.2.2.2.2.2.2.2.2.2.2.2.1,v11.2.2.2.2.2.2.2.2.2.2.2.2.2.2.2.2.1,v11.2.2.2.2.2.2.2.2.2.2.2.2.2.2.2.2.2.1++[(v11.2.2.1,v11.2.2.2.1)],v11.2.2.2.2.2.2.2.2.2.2.2.2.2.2.2.2.2.2.1,v11.2.2.2.2.2.2.2.2.2.2.2.2.2.2.2.2.2.2.2.1,()) (v11.2.2.1,v11.2.2.2.1)) fun r16=>
   bif r16.1 != 0 then
    some (r16.1,(r16.2.1.1,r16.2.1.2.1,r16.2.1.2.2.1,r16.2.1.2.2.2.1,r16.2.1.2.2.2.2.1,r16.2.1.2.2.2.2.2.1,r16.2.1.2.2.2.2.2.2.1,r16.2.1.2.2.2.2.2.2.2.1,()),())
   else
    Option.bind (bO r16.2.1.2.2.2.1 ()) fun r17=>
    bif r17.1 then
     some (1,(r16.2.1.1,r16.2.1.2.1,r16.2.1.2.2.1,r16.2.1.2.2.2.1,r16.2.1.2.2.2.2.1,r16.2.1.2.2.2.2.2.1,r16.2.1.2.2.2.2.2.2.1,r16.2.1.2.2.2.2.2.2.2.1,()),())
    else
     some (0,(r16.2.1.1,r16.2.1.2.1,r16.2.1.2.2.1,r16.2.1.2.2.2.1,r16.2.1.2.2.2.2.1,r16.2.1.2.2.2.2.2.1,r16.2.1.2.2.2.2.2.2.1,r16.2.1.2.2.2.2.2.2.2.1,()),())
def Cb (v11:(Int×Bool×Bool×(List Int)×(List UInt8)×(List UInt8)×Int×Int×Int×Bool×(List aJ)×(List ax)×(List aG)×(List aa)×(List aa)×(List aa)×(List aF)×(List aa)×(List Bool)×(List aa)×Unit)):Option (Int×(aj×(List aa)×(List aa)×(List aa)×(List aF)×(List aa)×(List Bool)×(List aa)×Unit)×Unit):=
 Option.bind (jU (v11.2.2.1,v11.2.2.2.1)) fun r12=>
 bif !r12.1 then
  some (1,((v11.2.2.2.2.1,v11.2.2.2.2.2.1,v11.2.2.2.2.2.2.1,v11.2.2.2.2.2.2.2.1,v11.2.2.2.2.2.2.2.2.1,v11.2.2.2.2.2.2.2.2.2.1,v11.2.2.2.2.2.2.2.2.2.2.1,v11.2.2.2.2.2.2.2.2.2.2.2.1,v11.2.2.2.2.2.2.2.2.2.2.2.2.1),v11.2.2.2.2.2.2.2.2.2.2.2.2.2.2.1,v11.2.2.2.2.2.2.2.2.2.2.2.2.2.1,v11.2.2.2.2.2.2.2.2.2.2.2.2.2.2.2.1,v11.2.2.2.2.2.2.2.2.2.2.2.2.2.2.2.2.1,v11.2.2.2.2.2.2.2.2.2.2.2.2.2.2.2.2.2.1,v11.2.2.2.2.2.2.2.2.2.2.2.2.2.2.2.2.2.2.1,v11.2.2.2.2.2.2.2.2.2.2.2.2.2.2.2.2.2.2.2.1,()),())
 else
  chk (decide (((v11.2.2.2.2.2.2.2.2.2.2.2.2.2.2.2.2.2.1.length)+1)*32≤140737488355328)&&decide ((v11.2.2.2.2.2.2.2.2.2.2.2.2.2.2.2.2.2.1.length)+1≤maxLen)) <|
  bif v11.2.1 then
   Option.bind (gw ((v11.2.2.2.2.1,v11.2.2.2.2.2.1,v11.2.2.2.2.2.2.1,v11.2.2.2.2.2.2.2.1,v11.2.2.2.2.2.2.2.2.1,v11.2.2.2.2.2.2.2.2.2.1,v11.2.2.2.2.2.2.2.2.2.2.1,v11.2.2.2.2.2.2.2.2.2.2.2.1,v11.2.2.2.2.2.2.2.2.2.2.2.2.1),v11.2.2.2.2.2.2.2.2.2.2.2.2.2.2.1,v11.2.2.2.2.2.2.2.2.2.2.2.2.2.1,v11.2.2.2.2.2.2.2.2.2.2.2.2.2.2.2.1,v11.2.2.2.2.2.2.2.2.2.2.2.2.2.2.2.2.1,v11.2.2.2.2.2.2.2.2.2.2.2.2.2.2.2.2.2.1++[(v11.2.2.1,v11.2.2.2.1)],v11.2.2.2.2.2.2.2.2.2.2.2.2.2.2.2.2.2.2.1,v11.2.2.2.2.2.2.2.2.2.2.2.2.2.2.2.2.2.2.2.1,()) v11.1 (v11.2.2.1,v11.2.2.2.1)) fun r13=>
   chk (decide (0≤v11.1)&&decide (v11.1<(r13.1.2.2.2.2.2.2.1.length:Int))) <|
   Option.bind (r13.1.2.2.2.2.2.2.1[v11.1.toNat]?) fun _=>
   Option.bind (bO r13.1.2.2.2.1 ()) fun r15=>
   bif r15.1 then
    some (1,(r13.1.1,r13.1.2.1,r13.1.2.2.1,r13.1.2.2.2.1,r13.1.2.2.2.2.1,r13.1.2.2.2.2.2.1,List.set r13.1.2.2.2.2.2.2.1 v11.1.toNat true,r13.1.2.2.2.2.2.2.2.1,()),())
   else
    some (0,(r13.1.1,r13.1.2.1,r13.1.2.2.1,r13.1.2.2.2.1,r13.1.2.2.2.2.1,r13.1.2.2.2.2.2.1,List.set r13.1.2.2.2.2.2.2.1 v11.1.toNat true,r13.1.2.2.2.2.2.2.2.1,()),())
  else
   Option.bind (iW ((v11.2.2.2.2.1,v11.2.2.2.2.2.1,v11.2.2.2.2.2.2.1,v11.2.2.2.2.2.2.2.1,v11.2.2.2.2.2.2.2.2.1,v11.2.2.2.2.2.2.2.2.2.1,v11.2.2.2.2.2.2.2.2.2.2.1,v11.2.2.2.2.2.2.2.2.2.2.2.1,v11.2.2.2.2.2.2.2.2.2.2.2.2.1),v11.2.2.2.2.2.2.2.2.2.2.2.2.2.2.1,v11.2.2.2.2.2.2.2.2.2.2.2.2.2.1,v11.2.2.2.2.2.2.2.2.2.2.2.2.2.2.2.1,v11.2.2.2.2.2.2.2.2.2.2.2.2.2.2.2.2.1,v11.2.2.2.2.2.2.2.2.2.2.2.2.2.2.2.2.2.1++[(v11.2.2.1,v11.2.2.2.1)],v11.2.2.2.2.2.2.2.2.2.2.2.2.2.2.2.2.2.2.1,v11.2.2.2.2.2.2.2.2.2.2.2.2.2.2.2.2.2.2.2.1,()) (v11.2.2.1,v11.2.2.2.1)) fun r16=>
   bif r16.1 != 0 then
    some (r16.1,(r16.2.1.1,r16.2.1.2.1,r16.2.1.2.2.1,r16.2.1.2.2.2.1,r16.2.1.2.2.2.2.1,r16.2.1.2.2.2.2.2.1,r16.2.1.2.2.2.2.2.2.1,r16.2.1.2.2.2.2.2.2.2.1,()),())
   else
    Option.bind (bO r16.2.1.2.2.2.1 ()) fun r17=>
    bif r17.1 then
     some (1,(r16.2.1.1,r16.2.1.2.1,r16.2.1.2.2.1,r16.2.1.2.2.2.1,r16.2.1.2.2.2.2.1,r16.2.1.2.2.2.2.2.1,r16.2.1.2.2.2.2.2.2.1,r16.2.1.2.2.2.2.2.2.2.1,()),())
    else
     some (0,(r16.2.1.1,r16.2.1.2.1,r16.2.1.2.2.1,r16.2.1.2.2.2.1,r16.2.1.2.2.2.2.1,r16.2.1.2.2.2.2.2.1,r16.2.1.2.2.2.2.2.2.1,r16.2.1.2.2.2.2.2.2.2.1,()),())
theorem Me (z:Int) (h:z.natAbs<4294967296 ^ 99):yf (W z)=some (W (z.natAbs:Int),()):=by
 unfold yf
 have hl:=U3 h
 rw [kC _ (W z).2 (eJ _) (by omega)]
 simp only [Option.bind_some,Wr,YL]
 congr 3
 simp only [W,eL]
theorem M5 (zs:List Nat) (hl:zs.length≤1000):jK (wI zs) ()=some (zs.any fun z=>decide (1000000000<z),()):=by
 unfold jK sW
 have loop:∀ f,zs.length<f→((zs.any fun z=>decide (1000000000<z))=false∧iter f ((wI zs,(),(zs.length:Int),(0:Int),()):jF) jH=some (Sum.inr ()))∨
  ((zs.any fun z=>decide (1000000000<z))=true∧∃ j:Nat,iter f ((wI zs,(),(zs.length:Int),(0:Int),()):jF) jH=some (Sum.inl ((j:Int),()))):=by
  intro f hf
  refine bN (Inv:=fun i X=>X=(wI zs,(),(zs.length:Int),(i:Int),())∧((zs.take i).any fun z=>decide (1000000000<z))=false) zs.length (fun r=>((zs.any fun z=>decide (1000000000<z))=false∧r=some (Sum.inr ()))∨((zs.any fun z=>decide (1000000000<z))=true∧∃ j:Nat,r=some (Sum.inl ((j:Int),())))) ?_ ?_ f 0 _ ⟨rfl,rfl⟩ (by omega) (by omega)
  ·rintro i _ again hi ⟨rfl,hal⟩ ih
   unfold jH
   dsimp only
   have hz:zs[i]? =some zs[i]:=aO hi
   generalize zs[i]=z at hz
   rw [az (by omega),bF,MZ hz,Option.bind_some]
   unfold uD
   rw [Option.bind_some]
   dsimp only
   by_cases h:(z:Int)>1000000000
   ·rw [az h]
    refine .inr ⟨?_,i,rfl⟩
    rw [WU]
    exact ⟨z,List.mem_of_getElem? hz,by rw [decide_eq_true_eq];omega⟩
   ·rw [ay h,au (by omega) (by omega)]
    refine ih _ ⟨rfl, ?_⟩
    rw [X0,hz,List.any_append,hal]
    simp;omega
  ·rintro _ again ⟨rfl,hal⟩
   unfold jH
   dsimp only
   rw [X3 (Yc _)] at hal
   rw [ay (by omega)]
   exact .inl ⟨hal,rfl⟩
 rw [vU]
 rcases loop (zs.length+(Int.natAbs ((zs.length:Int))+(Int.natAbs (0:Int)+2))) (by omega) with ⟨h,e⟩ | ⟨h,j,e⟩
 ·rw [e,aE,Option.bind_some,h];rfl
 ·rw [e,iV,Option.bind_some,h]
  dsimp only
  rw [YH (show (j:Int)≥0 by omega)]
theorem jv.snoc {n:Nat} {b:Br} (h:jv n b) {k:Nat} {d:Int} (hk:k<n) (hd:(d.natAbs:Int)≤MU):jv n (b++[(k,d)]):=by
 refine ⟨fun p hp=> ?_,fun p hp=> ?_⟩
 ·rcases XF.1 hp with hp | hp
  ·exact h.ix p hp
  ·rw [XQ.1 hp];exact hk
 ·rcases XF.1 hp with hp | hp
  ·exact h.am p hp
  ·rw [XQ.1 hp];exact hd
theorem L8 (v:aj) (nets lines:List Int) {n:Nat} (hn:n≤20) {sh:Br} (hsh:jv n sh) (hl:sh.length≤1999) (am:List Int) (has:List Bool) (tx:List Int) {k:Nat} (hk:k<n) {d:Int} (hd:(d.natAbs:Int)≤MU):
 gw (Bx v nets lines (aW n sh) sh am has tx) (k:Int) (W d)=some (Bx v nets lines (aW n (sh++[(k,d)])) (sh++[(k,d)]) am has tx,()):=by
 unfold gw Bx
 dsimp only
 have hbm:((aW n sh).map W)[k]? =some (W (atB sh k)):=by rw [List.getElem?_map,ux _ hk];rfl
 have hck:(decide (0≤(k:Int))&&decide ((k:Int)<(((aW n sh).map W).length:Int)))=true:=by
  rw [Xu,iS];simp only [Wo,decide_eq_true_eq];omega
 rw [aH hck,WQ,hbm,Option.bind_some,dJ _ _ ((Q6 hsh (by omega) k).w (by omega)) ((DD hd).w (by omega)),Option.bind_some,aH hck,Option.bind_some,aH (lX (by simp;omega) (by simp;omega))]
 dsimp only
 rw [← XE,LO,XA]
 rfl
theorem RS {v:aj} {lines:List Int} (hl:lines.length≤20) (hal:bB lines=true) (a:aa) (N L B:List aa) (S:List aF) (A:List aa) (H:List Bool) (T:List aa) (f:Nat) (hf:lines.length<f):
 iter f (([],false,lines.map W,(lines.length:Int),(0:Int),a.1,a.2,v.1,v.2.1,v.2.2.1,v.2.2.2.1,v.2.2.2.2.1,v.2.2.2.2.2.1,v.2.2.2.2.2.2.1,v.2.2.2.2.2.2.2.1,v.2.2.2.2.2.2.2.2,N,L,B,S,A,H,T,()):lU) oJ=
  some (Sum.inr (wI (lines.map Int.natAbs), !(lines.all fun b=>b==0),a.1,a.2,v.1,v.2.1,v.2.2.1,v.2.2.2.1,v.2.2.2.2.1,v.2.2.2.2.2.1,v.2.2.2.2.2.2.1,v.2.2.2.2.2.2.2.1,v.2.2.2.2.2.2.2.2,N,L,B,S,A,H,T,())):=by
 refine bN (Inv:=fun i X=>X=((wI ((lines.take i).map Int.natAbs), !((lines.take i).all fun b=>b==0),lines.map W,(lines.length:Int),(i:Int),a.1,a.2,v.1,v.2.1,v.2.2.1,v.2.2.2.1,v.2.2.2.2.1,v.2.2.2.2.2.1,v.2.2.2.2.2.2.1,v.2.2.2.2.2.2.2.1,v.2.2.2.2.2.2.2.2,N,L,B,S,A,H,T,()):lU)) lines.length
  (fun r=>r=some (Sum.inr (wI (lines.map Int.natAbs), !(lines.all fun b=>b==0),a.1,a.2,v.1,v.2.1,v.2.2.1,v.2.2.2.1,v.2.2.2.2.1,v.2.2.2.2.2.1,v.2.2.2.2.2.2.1,v.2.2.2.2.2.2.2.1,v.2.2.2.2.2.2.2.2,N,L,B,S,A,H,T,()))) ?_ ?_ f 0 _ rfl (by omega) (by omega)
 ·rintro i _ again hi rfl ih
  unfold oJ
  dsimp only
  have hz:lines[i]? =some lines[i]:=aO hi
  have hzm:rU lines[i]=true:=WS.1 hal _ (Xq hi)
  generalize lines[i]=z at hz hzm
  have hzb:(z.natAbs:Int)≤MU:=by unfold rU at hzm;exact YR hzm
  have hMU:=Ih
  have hw:=DD hzb
  rw [az (by omega),bF,List.getElem?_map,hz,YB,Option.bind_some,Me _ (hw.w (by omega)),Option.bind_some]
  dsimp only
  rw [sX _ _ (by omega) (by omega),Option.bind_some,if_pos (by omega)]
  dsimp only
  rw [aH (lX (by rw [vU];simp;omega) (by rw [vU];simp;omega)),au (by omega) (by omega)]
  have e1:wI ((lines.take i).map Int.natAbs)++[(z.natAbs:Int)]=wI ((lines.take (i+1)).map Int.natAbs):=by
   rw [X0,hz,XA]
   unfold wI
   rw [XA]
   rfl
  have e2:((lines.take (i+1)).all fun b=>b==0)=(((lines.take i).all fun b=>b==0)&&(z==0)):=by
   rw [X0,hz,List.all_append];simp
  have:=ih _ rfl
  rw [← e1,e2] at this
  cases hx:((lines.take i).all fun b=>b==0) with
  | false=>rw [hx] at this;exact this
  | true=>
   rw [hx,WA] at this
   rw [Bool.not_true,cond_false]
   have e3:decide ((z.natAbs:Int)>0)= !(z==0):=by
    by_cases h:z=0
    ·subst h;rfl
    ·rw [YH (by omega),show (z==0)=false by simpa using h];rfl
   rw [e3];exact this
 ·rintro _ again rfl
  unfold oJ
  dsimp only
  rw [ay (by omega),X3 (Yc _)]
theorem Tj {v:aj} {nets lines am tx:List Int} {n:Nat} (hn:n≤20) {sh:Br} (hsh:jv n sh) (hl:sh.length≤1900) (fl:List Nat) {xs:List Int} {pl:Int} (hxl:xs.length=n) (hxs:∀ x∈xs,(x.natAbs:Int)≤MU) (f:Nat) (hf:xs.length<f):
 iter f ((xs.map (fun x=>(x,pl)),(xs.length:Int),(0:Int),v.1,v.2.1,v.2.2.1,v.2.2.2.1,v.2.2.2.2.1,v.2.2.2.2.2.1,v.2.2.2.2.2.2.1,v.2.2.2.2.2.2.2.1,v.2.2.2.2.2.2.2.2,nets.map W,lines.map W,(aW n sh).map W,sh.map shW,am.map W,cW n fl,tx.map W,()):jk) kQ=
  some (Sum.inr (v.1,v.2.1,v.2.2.1,v.2.2.2.1,v.2.2.2.2.1,v.2.2.2.2.2.1,v.2.2.2.2.2.2.1,v.2.2.2.2.2.2.2.1,v.2.2.2.2.2.2.2.2,nets.map W,lines.map W,(aW n (sh++jh 0 xs)).map W,(sh++jh 0 xs).map shW,am.map W,cW n (fl++(jh 0 xs).map (·.1)),tx.map W,())):=by
 have nz_snoc:∀ (l:List Int) (k:Nat) (x:Int),jh k (l++[x])=jh k l++(if x=0 then [] else [(k+l.length,x)]):=by
  intro l
  induction l with
  | nil=>intro k x;simp [jh]
  | cons y l ih=>
   intro k x
   simp only [WY,jh,ih (k+1) x,Xs]
   rw [show k+1+l.length=k+(l.length+1) by omega]
   split<;>simp
 have nz_len:∀ (l:List Int) (k:Nat),(jh k l).length≤l.length:=by
  intro l
  induction l with
  | nil=>intro k;simp [jh]
  | cons y l ih=>
   intro k
   have:=ih (k+1)
   simp only [jh]
   split<;>simp<;>omega
 refine bN (Inv:=fun i X=>jv n (sh++jh 0 (xs.take i))∧X=((xs.map (fun x=>(x,pl)),(xs.length:Int),(i:Int),v.1,v.2.1,v.2.2.1,v.2.2.2.1,v.2.2.2.2.1,v.2.2.2.2.2.1,v.2.2.2.2.2.2.1,v.2.2.2.2.2.2.2.1,v.2.2.2.2.2.2.2.2,nets.map W,lines.map W,(aW n (sh++jh 0 (xs.take i))).map W,(sh++jh 0 (xs.take i)).map shW,am.map W,cW n (fl++(jh 0 (xs.take i)).map (·.1)),tx.map W,()):jk)) xs.length
  (fun r=>r=some (Sum.inr (v.1,v.2.1,v.2.2.1,v.2.2.2.1,v.2.2.2.2.1,v.2.2.2.2.2.1,v.2.2.2.2.2.2.1,v.2.2.2.2.2.2.2.1,v.2.2.2.2.2.2.2.2,nets.map W,lines.map W,(aW n (sh++jh 0 xs)).map W,(sh++jh 0 xs).map shW,am.map W,cW n (fl++(jh 0 xs).map (·.1)),tx.map W,()))) ?_ ?_ f 0 _ ⟨by simpa [jh] using hsh,by simp [jh]⟩ (by omega) (by omega)
 ·rintro i _ again hi ⟨hok,rfl⟩ ih
  unfold kQ
  dsimp only
  have hx:xs[i]? =some xs[i]:=aO hi
  have hxm:=hxs _ (Xq hi)
  generalize xs[i]=x at hx hxm
  have hMU:=Ih
  have hbl:=nz_len (xs.take i) 0
  rw [Xz] at hbl
  have hsl:(sh++jh 0 (xs.take i)).length≤1999:=by rw [Xr];omega
  have hnext:=nz_snoc (xs.take i) 0 x
  have htk:xs.take (i+1)=xs.take i++[x]:=by rw [X0,hx];rfl
  have hlt:(xs.take i).length=i:=by rw [Xz];omega
  rw [← htk,hlt,Yt] at hnext
  rw [az (by omega),bF,List.getElem?_map,hx,YB,Option.bind_some]
  dsimp only
  have hin:i<n:=by omega
  by_cases h0:x=0
  ·rw [if_pos h0,WW] at hnext
   rw [show (x != 0)=false by simpa using h0,cond_false,au (by omega) (by omega)]
   refine ih _ ⟨by rw [hnext];exact hok,by rw [hnext];rfl⟩
  ·rw [if_neg h0] at hnext
   have hb:=L8 v nets lines hn hok hsl am (cW n (fl++(jh 0 (xs.take i)).map (·.1))) tx hin hxm
   unfold Bx at hb
   rw [show (x != 0)=true by simpa using h0,cond_true,dS _ (by omega) (by omega),Option.bind_some]
   dsimp only
   rw [show (v.1,v.2.1,v.2.2.1,v.2.2.2.1,v.2.2.2.2.1,v.2.2.2.2.2.1,v.2.2.2.2.2.2.1,v.2.2.2.2.2.2.2.1,v.2.2.2.2.2.2.2.2)=v from rfl,hb,Option.bind_some]
   dsimp only
   rw [aH (by rw [qT];simp only [Wo,decide_eq_true_eq];omega),WQ,En _ hin,Option.bind_some,au (by omega) (by omega),EW]
   refine ih _ ⟨by rw [hnext, ← WV];exact hok.snoc hin hxm, ?_⟩
   rw [hnext]
   simp only [WV,XA,XC,XD]
   rfl
 ·rintro _ again ⟨_,rfl⟩
  unfold kQ
  dsimp only
  rw [ay (by omega),X3 (Yc _)]
end Go.Md
namespace Go.Md
open Go.Dn
theorem F7:∀ {l:List Int},(l.all fun b=>b==0)=false→0<(l.map Int.natAbs).sum
 | [],h=>by simp at h
 | x::l,h=>by
  by_cases hx:x=0
  ·subst hx
   have:=F7 (l:=l) (by simpa using h)
   simp only [XC,XZ];omega
  ·simp only [XC,XZ];omega
theorem Sd {v:aj} (hv:oL v) (k:Nat):gU (yN v k):=by
 unfold yN
 rw [List.getD_eq_getElem?_getD]
 cases h:(aA v)[k]? with
 | none=>exact ⟨by simp,by simp,by simp⟩
 | some r=>
  have:=hv.rates r (List.mem_of_getElem? h)
  unfold inR at this
  rw [decide_eq_true_eq] at this
  exact this.1
end Go.Md
namespace Go.Md
open Go.Dn
theorem Qj {n k:Nat} {fl:List Nat} (h:fl.contains k=true):cW n (fl++[k])=cW n fl:=by
 unfold cW
 apply XB
 intro i _
 by_cases e:i=k
 ·subst e;rw [h];simp
 ·simp [e]
theorem TK {n k:Nat} {fl:List Nat} (hk:k<n) (h:fl.contains k=false):(cW n fl).set k false=cW n fl:=by
 apply W8
 intro i
 by_cases e:k=i
 ·subst e
  rw [Xl (by rw [qT];exact hk),En _ hk,h]
 ·rw [Xk e]
theorem Sr (lines:List Int):((lines.map Int.natAbs).any fun z=>decide (1000000000<z))=lines.any fun b=>decide (MW<b.natAbs):=by
 rw [List.any_map];rfl
theorem tF {d:Int}:rU d=true↔(d.natAbs:Int)≤MU:=by unfold rU;rw [decide_eq_true_eq]
theorem TZ {v:aj} (hv:oL v) (nets am tx:List Int) {n:Nat} (hn0:0<n) (hn:n≤20) {lines:List Int} (hll:lines.length=n) (hal:bB lines=true) {sh:Br} (hsh:jv n sh) (hl:sh.length≤1900) (fl:List Nat) {d:Int} (hd:(d.natAbs:Int)≤MU):
 (∃ p g,xG none d lines= .inr (d,p,g)∧jv n (sh++p)∧p.length≤20∧iW (Bx v nets lines (aW n sh) sh am (cW n fl) tx) (W d)=some (0,Bx v nets lines (aW n (sh++p)) (sh++p) am (cW n (fl++g)) tx,()))∨
 (xG none d lines= .inl 2∧∃ b,iW (Bx v nets lines (aW n sh) sh am (cW n fl) tx) (W d)=some (2,b,())):=by
 have hpl:=hv.pl
 have hMU:=Ih
 have hb:iW (Bx v nets lines (aW n sh) sh am (cW n fl) tx) (W d)=Sp (wI (lines.map Int.natAbs), !(lines.all fun b=>b==0),(W d).1,(W d).2,v.1,v.2.1,v.2.2.1,v.2.2.2.1,v.2.2.2.2.1,v.2.2.2.2.2.1,v.2.2.2.2.2.2.1,v.2.2.2.2.2.2.2.1,v.2.2.2.2.2.2.2.2,lines.map W,nets.map W,(aW n sh).map W,sh.map shW,am.map W,cW n fl,tx.map W,()):=by
  unfold iW Bx
  dsimp only
  rw [Xu,RS (v:=v) (by omega) hal (W d) (lines.map W) (nets.map W) ((aW n sh).map W) (sh.map shW) (am.map W) (cW n fl) (tx.map W) _ ?_,aE]
  ·rfl
  ·simp;omega
 rw [hb]
 have him:rU d=true:=tF.2 hd
 unfold Sp xG
 rw [him,cond_true]
 dsimp only
 cases hz:(lines.all fun b=>b==0) with
 | true=>
  rw [Bool.not_true,Wx,cond_true,cond_true]
  refine .inl ⟨[(0,d)],bif d==0 then [] else [0],rfl,hsh.snoc hn0 hd,by simp, ?_⟩
  have hbr:gw (Bx v nets lines (aW n sh) sh am (cW n fl) tx) 0 (W d)=some (Bx v nets lines (aW n (sh++[(0,d)])) (sh++[(0,d)]) am (cW n fl) tx,()):=L8 v nets lines hn hsh (by omega) am (cW n fl) tx (k:=0) hn0 hd
  unfold Bx at hbr ⊢
  rw [show (v.1,v.2.1,v.2.2.1,v.2.2.2.1,v.2.2.2.2.1,v.2.2.2.2.2.1,v.2.2.2.2.2.2.1,v.2.2.2.2.2.2.2.1,v.2.2.2.2.2.2.2.2)=v from rfl,show ((W d).1,(W d).2)=W d from rfl,hbr,Option.bind_some]
  dsimp only
  have hg0:(cW n fl)[0]? =some (fl.contains 0):=En _ hn0
  rw [aH (by rw [qT];simp only [Wo,decide_eq_true_eq];omega),hg0,Option.bind_some]
  cases hc:fl.contains 0 with
  | true=>
   rw [cond_true,aH (by rw [qT];simp only [Wo,decide_eq_true_eq];omega),Option.bind_some,EW,Qj hc]
   cases hd0:d==0 with
   | true=>rw [cond_true,WW]
   | false=>rw [cond_false,Qj hc]
  | false=>
   rw [cond_false,lY,Option.bind_some,aH (by rw [qT];simp only [Wo,decide_eq_true_eq];omega),Option.bind_some]
   dsimp only
   by_cases hd0:d=0
   ·subst hd0
    rw [show ((Int.sign 0) != 0)=false from rfl,TK hn0 hc,show ((0:Int)==0)=true from rfl,cond_true,WW]
   ·have hs:(d.sign != 0)=true:=by
     have:=mt Int.sign_eq_zero_iff_zero.1 hd0
     simpa using this
    rw [hs,EW,show (d==0)=false by simpa using hd0,cond_false]
 | false=>
  rw [Wx,Bool.not_true,cond_false,cond_false,M5 _ (by simp;omega),Option.bind_some,Sr]
  dsimp only
  cases hw:(lines.any fun b=>decide (MW<b.natAbs)) with
  | true=>rw [cond_true,cond_true];exact .inr ⟨rfl,_,rfl⟩
  | false=>
   rw [cond_false,cond_false,show ((W d).1,(W d).2)=W d from rfl,Bt,Option.bind_some,if_pos (by omega)]
   dsimp only
   have hws:BN (lines.map Int.natAbs):=by
    refine ⟨by simp;omega,fun w hwm=> ?_,F7 hz⟩
    have:=hw
    rw [← Sr,WT] at this
    have h1:=this w hwm
    simpa using h1
   rw [Mp d v.2.2.2.1 (by omega) (by omega) _ hws,Option.bind_some]
   dsimp only
   rw [show ((0:Int) != 0)=false from rfl,cond_false]
   have hxl:(iD d (lines.map Int.natAbs)).length=n:=by rw [LN,Xu,hll]
   have hxs:∀ x∈iD d (lines.map Int.natAbs),(x.natAbs:Int)≤MU:=fun x hx=>by
    have:=NH (n:=d) hws.pos hx
    omega
   have hmem:=Ms (iD d (lines.map Int.natAbs)) 0
   have hlenz:(jh 0 (iD d (lines.map Int.natAbs))).length≤20:=by
    have nz_len:∀ (l:List Int) (k:Nat),(jh k l).length≤l.length:=by
     intro l
     induction l with
     | nil=>intro k;simp [jh]
     | cons y l ih=>
      intro k
      have:=ih (k+1)
      simp only [jh]
      split<;>simp<;>omega
    have:=nz_len (iD d (lines.map Int.natAbs)) 0
    omega
   refine .inl ⟨_,_,rfl,⟨fun p hp=> ?_,fun p hp=> ?_⟩,hlenz, ?_⟩
   ·rcases XF.1 hp with hp | hp
    ·exact hsh.ix p hp
    ·have:=(hmem p hp).2.1;omega
   ·rcases XF.1 hp with hp | hp
    ·exact hsh.am p hp
    ·exact hxs _ (hmem p hp).2.2.1
   ·rw [Xu,Tj (v:=v) (nets:=nets) (lines:=lines) (am:=am) (tx:=tx) hn hsh hl fl (pl:=v.2.2.2.1) hxl hxs _ ?_,aE]
    ·rfl
    ·simp;omega
theorem Q8 {v:aj} (hv:oL v) (nets:List Int) (am tx:List Int) {n:Nat} (hn0:0<n) (hn:n≤20) {lines:List Int} (hll:lines.length=n) (hal:bB lines=true) {sh:Br} (hsh:jv n sh) (hl:sh.length≤1900) (hal2:am.length≤1000) (fl:List Nat)
 (o:Option Nat) (k:Nat) (ho:∀ k',o=some k'→k=k'∧k'<n) (d:Int):
 (∃ p g,xG o d lines= .inr (d,p,g)∧jv n (sh++p)∧p.length≤20∧Cb ((k:Int),o.isSome,(W d).1,(W d).2,v.1,v.2.1,v.2.2.1,v.2.2.2.1,v.2.2.2.2.1,v.2.2.2.2.2.1,v.2.2.2.2.2.2.1,v.2.2.2.2.2.2.2.1,v.2.2.2.2.2.2.2.2,lines.map W,nets.map W,(aW n sh).map W,sh.map shW,am.map W,cW n fl,tx.map W,())=
   some (bif bB (aW n (sh++p)) then 0 else 1,Bx v nets lines (aW n (sh++p)) (sh++p) (am++[d]) (cW n (fl++g)) tx,()))∨
 (∃ f b,f≠0∧xG o d lines= .inl f∧Cb ((k:Int),o.isSome,(W d).1,(W d).2,v.1,v.2.1,v.2.2.1,v.2.2.2.1,v.2.2.2.2.1,v.2.2.2.2.2.1,v.2.2.2.2.2.2.1,v.2.2.2.2.2.2.2.1,v.2.2.2.2.2.2.2.2,lines.map W,nets.map W,(aW n sh).map W,sh.map shW,am.map W,cW n fl,tx.map W,())=some (f,b,())):=by
 unfold Cb
 dsimp only
 rw [show ((W d).1,(W d).2)=W d from rfl,CA,Option.bind_some]
 dsimp only
 cases him:rU d with
 | false=>
  refine .inr ⟨1,_,by omega, ?_,rfl⟩
  unfold xG;rw [him];rfl
 | true=>
  have hd:=tF.1 him
  rw [Bool.not_true,cond_false,aH (lX (by simp;omega) (by simp;omega))]
  rw [show (v.1,v.2.1,v.2.2.1,v.2.2.2.1,v.2.2.2.2.1,v.2.2.2.2.2.1,v.2.2.2.2.2.2.1,v.2.2.2.2.2.2.2.1,v.2.2.2.2.2.2.2.2)=v from rfl,show am.map W++[W d]=(am++[d]).map W by simp]
  cases o with
  | some k'=>
   obtain ⟨rfl,hk⟩:=ho k' rfl
   have hb:=L8 v nets lines hn hsh (by omega) (am++[d]) (cW n fl) tx hk hd
   unfold Bx at hb
   rw [Yz,cond_true,hb,Option.bind_some]
   dsimp only
   rw [aH (by rw [qT];simp only [Wo,decide_eq_true_eq];omega),WQ,En _ hk,Option.bind_some,IG _ (by rw [iS];omega),Option.bind_some,EW]
   dsimp only
   refine .inl ⟨[(k,d)],[k],by unfold xG;rw [him];rfl,hsh.snoc hk hd,by simp, ?_⟩
   unfold Bx
   cases bB (aW n (sh++[(k,d)]))<;>rfl
  | none=>
   rw [Option.isSome_none,cond_false]
   rcases TZ hv nets (am++[d]) tx hn0 hn hll hal hsh hl fl hd with ⟨p,g,h1,h2,h3,h4⟩ | ⟨h1,b,h4⟩
   ·unfold Bx at h4
    rw [h4,Option.bind_some]
    dsimp only
    rw [show ((0:Int) != 0)=false from rfl,cond_false,IG _ (by rw [iS];omega),Option.bind_some]
    dsimp only
    refine .inl ⟨p,g,h1,h2,h3, ?_⟩
    unfold Bx
    cases bB (aW n (sh++p))<;>rfl
   ·unfold Bx at h4
    rw [h4,Option.bind_some]
    exact .inr ⟨2,_,by omega,h1,rfl⟩
end Go.Md
namespace Go.Md
open Go.Dn
theorem Qh {v:aj} (hv:oL v) {x:aG} (hx:PS (vPl v) x) (nb:Bool) (k:Int) {g:Int} (hg:Le 40 g) (L N B:List aa) (S:List aF) (A:List aa) (H:List Bool) (T:List aa):
 OP (k,nb,x.1,x.2.1.1,x.2.1.2,x.2.2,(W g).1,(W g).2,v.1,v.2.1,v.2.2.1,v.2.2.2.1,v.2.2.2.2.1,v.2.2.2.2.2.1,v.2.2.2.2.2.2.1,v.2.2.2.2.2.2.2.1,v.2.2.2.2.2.2.2.2,L,N,B,S,A,H,T,())=
  Cb (k,nb,(W (kK (tv v) (vPl v) g x)).1,(W (kK (tv v) (vPl v) g x)).2,v.1,v.2.1,v.2.2.1,v.2.2.2.1,v.2.2.2.2.1,v.2.2.2.2.2.1,v.2.2.2.2.2.2.1,v.2.2.2.2.2.2.2.1,v.2.2.2.2.2.2.2.2,L,N,B,S,A,H,T,()):=by
 have hpl:=hv.pl
 have hd1:=hx.dec.1;have hd2:=hx.dec.2
 unfold OP
 dsimp only
 have hmx:(if x.2.1.2>v.2.2.2.1 then x.2.1.2 else v.2.2.2.1)=max v.2.2.2.1 x.2.1.2:=by omega
 rw [hmx,show (x.2.1.1,x.2.1.2)=x.2.1 from rfl,EB _ _ (by omega) (by omega) (by omega) (by omega) (by omega),Option.bind_some]
 dsimp only
 cases hp:x.1 with
 | true=>
  rw [cond_true,show (v.1,v.2.1,v.2.2.1,v.2.2.2.1,v.2.2.2.2.1,v.2.2.2.2.2.1,v.2.2.2.2.2.2.1,v.2.2.2.2.2.2.2.1,v.2.2.2.2.2.2.2.2)=v from rfl,show ((W g).1,(W g).2)=W g from rfl,Ax v g _ hx.dec (hg.mono (by omega)),Option.bind_some,aE]
  unfold kK
  rw [hp,if_pos rfl]
  rfl
 | false=>
  have hpp:x.2.1.2≤v.2.2.2.1:=hx.place hp
  rw [cond_false,aE,show max v.2.2.2.1 x.2.1.2=v.2.2.2.1 by omega]
  unfold kK
  rw [hp,if_neg (by simp)]
  rfl
theorem Hl {l:List Int} {i:Nat} {x:Int} (h:l[i]? =some x):(l.take (i+1)).sum=(l.take i).sum+x:=by
 rw [X0,h,XY];simp
theorem yX {l:List Int} (hl:l.length≤1000) (h:bB l=true):Le 19 l.sum:=by
 have key:∀ l:List Int,bB l=true→l.sum.natAbs≤l.length*1000000000000000:=by
  intro l
  induction l with
  | nil=>intro _;simp
  | cons x l ih=>
   intro h
   unfold bB at h ih
   simp only [WR,Wo] at h
   have h1:=ih h.2
   have h2:=tF.1 h.1
   have:=Ih
   simp only [XZ,Xs,X6,Yp]
   omega
 have h1:=key l h
 have h2:l.length*1000000000000000≤1000*1000000000000000:=Yn _ hl
 exact Le.int (by omega) (by omega)
theorem MR {l:List Int} (h:bB l=true) (i:Nat):bB (l.take i)=true:=by
 unfold bB at*
 rw [WS] at*
 exact fun x hx=>h x (XN hx)
theorem Tn {v:aj} (x:aG) (k:Int) {lines:List Int} (hl:lines.length≤1000) (hal:bB lines=true) (L N B:List aa) (S:List aF) (A:List aa) (H:List Bool) (T:List aa) (f:Nat) (hf:lines.length<f):
 iter f ((k,false,lines.map W,(lines.length:Int),(0:Int),x.1,x.2.1.1,x.2.1.2,x.2.2,(W 0).1,(W 0).2,v.1,v.2.1,v.2.2.1,v.2.2.2.1,v.2.2.2.2.1,v.2.2.2.2.2.1,v.2.2.2.2.2.2.1,v.2.2.2.2.2.2.2.1,v.2.2.2.2.2.2.2.2,L,N,B,S,A,H,T,()):mz) pQ=
  some (Sum.inr (k,false,x.1,x.2.1.1,x.2.1.2,x.2.2,(W lines.sum).1,(W lines.sum).2,v.1,v.2.1,v.2.2.1,v.2.2.2.1,v.2.2.2.2.1,v.2.2.2.2.2.1,v.2.2.2.2.2.2.1,v.2.2.2.2.2.2.2.1,v.2.2.2.2.2.2.2.2,L,N,B,S,A,H,T,())):=by
 refine bN (Inv:=fun i X=>X=((k,false,lines.map W,(lines.length:Int),(i:Int),x.1,x.2.1.1,x.2.1.2,x.2.2,(W (lines.take i).sum).1,(W (lines.take i).sum).2,v.1,v.2.1,v.2.2.1,v.2.2.2.1,v.2.2.2.2.1,v.2.2.2.2.2.1,v.2.2.2.2.2.2.1,v.2.2.2.2.2.2.2.1,v.2.2.2.2.2.2.2.2,L,N,B,S,A,H,T,()):mz)) lines.length
  (fun r=>r=some (Sum.inr (k,false,x.1,x.2.1.1,x.2.1.2,x.2.2,(W lines.sum).1,(W lines.sum).2,v.1,v.2.1,v.2.2.1,v.2.2.2.1,v.2.2.2.2.1,v.2.2.2.2.2.1,v.2.2.2.2.2.2.1,v.2.2.2.2.2.2.2.1,v.2.2.2.2.2.2.2.2,L,N,B,S,A,H,T,()))) ?_ ?_ f 0 _ rfl (by omega) (by omega)
 ·rintro i _ again hi rfl ih
  unfold pQ
  dsimp only
  have hz:lines[i]? =some lines[i]:=aO hi
  have hzm:rU lines[i]=true:=WS.1 hal _ (Xq hi)
  generalize lines[i]=z at hz hzm
  have h1:=yX (l:=lines.take i) (by rw [Xz];omega) (MR hal i)
  have h2:=DD (tF.1 hzm)
  rw [az (by omega),bF,List.getElem?_map,hz,YB,Option.bind_some,show ((W (lines.take i).sum).1,(W (lines.take i).sum).2)=W (lines.take i).sum from rfl,dJ _ _ (h1.w (by omega)) (h2.w (by omega)),Option.bind_some,au (by omega) (by omega), ← Hl hz]
  exact ih _ rfl
 ·rintro _ again rfl
  unfold pQ
  dsimp only
  rw [ay (by omega),X3 (Yc _)]
theorem UQ {v:aj} (hv:oL v) (nets am tx:List Int) {lines:List Int} (hll:lines.length=(aA v).length) (hal:bB lines=true) {sh:Br} (hsh:jv (aA v).length sh) (hl:sh.length≤1900) (hal2:am.length≤1000) (fl:List Nat) {x:aG} (hx:PS (vPl v) x):
 (∃ d p g,An v lines x= .inr (d,p,g)∧jv (aA v).length (sh++p)∧p.length≤20∧mK (Bx v nets lines (aW (aA v).length sh) sh am (cW (aA v).length fl) tx) x=
   some (bif bB (aW (aA v).length (sh++p)) then 0 else 1,Bx v nets lines (aW (aA v).length (sh++p)) (sh++p) (am++[d]) (cW (aA v).length (fl++g)) tx,()))∨
 (∃ f b,f≠0∧An v lines x= .inl f∧mK (Bx v nets lines (aW (aA v).length sh) sh am (cW (aA v).length fl) tx) x=some (f,b,())):=by
 have hrn:0<(aA v).length∧(aA v).length≤20:=hv.rn
 obtain ⟨k,hk1,hk2⟩:=Bh (aA v) x.2.2 (by omega) hv.asc
 have hg:Le 40 (Aq v lines x):=by
  unfold Aq
  cases ho:jM (·.1) x.2.2 (aA v) with
  | some k'=>
   dsimp only
   rw [List.getD_eq_getElem?_getD]
   cases hz:lines[k']? with
   | none=>exact (show Le 40 0 by unfold Le;simp)
   | some z=>exact (DD (tF.1 (WS.1 hal _ (List.mem_of_getElem? hz)))).mono (by omega)
  | none=>exact (yX (by omega) hal).mono (by omega)
 have hred:mK (Bx v nets lines (aW (aA v).length sh) sh am (cW (aA v).length fl) tx) x=Cb ((k:Int),(jM (·.1) x.2.2 (aA v)).isSome,(W (kK (tv v) (vPl v) (Aq v lines x) x)).1,(W (kK (tv v) (vPl v) (Aq v lines x) x)).2,v.1,v.2.1,v.2.2.1,v.2.2.2.1,v.2.2.2.2.1,v.2.2.2.2.2.1,v.2.2.2.2.2.2.1,v.2.2.2.2.2.2.2.1,v.2.2.2.2.2.2.2.2,lines.map W,nets.map W,(aW (aA v).length sh).map W,sh.map shW,am.map W,cW (aA v).length fl,tx.map W,()):=by
  rw [← Qh hv hx]
  ·unfold mK Bx
   dsimp only
   rw [dS 0 (by omega) (by omega),Option.bind_some]
   have hk1':qV v.2.2.2.2.2.2.1 x.2.2=some ((k:Int),(jM (·.1) x.2.2 (aA v)).isSome,()):=hk1
   rw [hk1',Option.bind_some]
   dsimp only
   cases ho:jM (·.1) x.2.2 (aA v) with
   | some k'=>
    obtain rfl:=hk2 k' ho
    obtain ⟨rt,hrt,_⟩:=qs ho
    have hkl:k<lines.length:=by rw [hll];exact (List.getElem?_eq_some_iff.1 hrt).1
    have hz:lines[k]? =some lines[k]:=aO hkl
    rw [Yz,cond_true,bF,List.getElem?_map,hz,YB,Option.bind_some,aE]
    have hbase:Aq v lines x=lines[k]:=by
     unfold Aq;rw [ho];dsimp only;rw [List.getD_eq_getElem?_getD,hz];rfl
    rw [hbase]
    rfl
   | none=>
    have hbase:Aq v lines x=lines.sum:=by
     unfold Aq;rw [ho]
    rw [hbase]
    rw [Option.isSome_none,cond_false,Xu,Tn (v:=v) x (k:Int) (by omega) hal (lines.map W) (nets.map W) ((aW (aA v).length sh).map W) (sh.map shW) (am.map W) (cW (aA v).length fl) (tx.map W) _ ?_,aE,aE]
    ·rfl
    ·simp;omega
  ·exact hg
 rw [hred]
 unfold An
 rcases Q8 hv nets am tx hrn.1 hrn.2 hll hal hsh hl hal2 fl (jM (·.1) x.2.2 (aA v)) k (fun k' h=>⟨hk2 k' h,by obtain ⟨rt,hrt,_⟩:=qs h;exact (List.getElem?_eq_some_iff.1 hrt).1⟩) (kK (tv v) (vPl v) (Aq v lines x) x) with ⟨p,g,h1,h2,h3,h4⟩ | ⟨f,b,h1,h2,h3⟩
 ·exact .inl ⟨_,p,g,h1,h2,h3,h4⟩
 ·exact .inr ⟨f,b,h1,h2,h3⟩
end Go.Md
namespace Go.Md
open Go.Dn
theorem VH {α:Type} {b:Bool} (h:b=true) (x y:α):(bif b then x else y)=x:=by rw [h];rfl
theorem VE {α:Type} {b:Bool} (h:b=false) (x y:α):(bif b then x else y)=y:=by rw [h];rfl
theorem Vg {α:Type} {b:Bool} (h:b=true) (x y:α):(bif !b then x else y)=y:=by rw [h];rfl
theorem Vb {α:Type} {b:Bool} (h:b=false) (x y:α):(bif !b then x else y)=x:=by rw [h];rfl
def K35:Nat:=10 ^ 35
theorem Le.k35 {z:Int} (h:Le 35 z):z.natAbs≤K35:=h
theorem VT {z:Int} {c:Nat} (hc:c≤1000) (h:z.natAbs≤c*K35):Le 38 z:=by
 unfold Le
 have h1:c*K35≤1000*K35:=Yn _ hc
 have h2:1000*K35=10 ^ 38:=by unfold K35;decide
 omega
theorem Gd (way:Int) (pc:ak) (k:Nat):∀ (a b:Br),Ac way pc k (a++b)=Ac way pc k a+Ac way pc k b
 | [],b=>by simp [Ac]
 | p::a,b=>by simp only [WY,Ac,Gd way pc k a b];omega
theorem Sk {way:Int} {pc:ak} (hp:gU pc) (k:Nat):∀ {b:Br},(∀ p∈b,(p.2.natAbs:Int)≤MU)→(Ac way pc k b).natAbs≤b.length*K35
 | [],_=>by simp [Ac]
 | p::b,h=>by
  have h1:=Sk (way:=way) hp k (b:=b) fun q hq=>h q (XH _ hq)
  have h2:(wk way p.2 pc).natAbs≤K35:=(OH (DD (h p XI)) hp:Le 35 _).k35
  simp only [Ac,Xs,X6,Yp]
  split<;>omega
theorem Q0 {v:aj} {k:Nat} {r:aJ} (h:(aA v)[k]? =some r):yN v k=r.2:=by
 unfold yN;rw [List.getD_eq_getElem?_getD,h];rfl
theorem T0 {v:aj} (hv:oL v) {br:Br} (hbr:jv (aA v).length br) (hl:br.length≤1000) (L N:List aa) (S:List aF) (A:List aa) (H:List Bool) (f:Nat) (hf:(aA v).length<f):
 iter f ((aA v,((aA v).length:Int),(0:Int),v.1,v.2.1,v.2.2.1,v.2.2.2.1,v.2.2.2.2.1,v.2.2.2.2.2.1,v.2.2.2.2.2.2.1,v.2.2.2.2.2.2.2.1,v.2.2.2.2.2.2.2.2,L,List.replicate (Int.toNat ((aA v).length:Int)) ((false,[]):aa),N,(aW (aA v).length br).map W,S,A,H,()):ox) rq=
  some (Sum.inr (v.1,v.2.1,v.2.2.1,v.2.2.2.1,v.2.2.2.2.1,v.2.2.2.2.2.1,v.2.2.2.2.2.2.1,v.2.2.2.2.2.2.2.1,v.2.2.2.2.2.2.2.2,L,((List.range (aA v).length).map fun k=>if C4 v=true then 0 else wk (tv v) (atB br k) (yN v k)).map W,N,(aW (aA v).length br).map W,S,A,H,())):=by
 have hrn:0<(aA v).length∧(aA v).length≤20:=hv.rn
 refine bN (Inv:=fun i X=>X=((aA v,((aA v).length:Int),(i:Int),v.1,v.2.1,v.2.2.1,v.2.2.2.1,v.2.2.2.2.1,v.2.2.2.2.2.1,v.2.2.2.2.2.2.1,v.2.2.2.2.2.2.2.1,v.2.2.2.2.2.2.2.2,L,((List.range (aA v).length).map fun k=>if C4 v=true∨i≤k then 0 else wk (tv v) (atB br k) (yN v k)).map W,N,(aW (aA v).length br).map W,S,A,H,()):ox)) (aA v).length
  (fun r=>r=some (Sum.inr (v.1,v.2.1,v.2.2.1,v.2.2.2.1,v.2.2.2.2.1,v.2.2.2.2.2.1,v.2.2.2.2.2.2.1,v.2.2.2.2.2.2.2.1,v.2.2.2.2.2.2.2.2,L,((List.range (aA v).length).map fun k=>if C4 v=true then 0 else wk (tv v) (atB br k) (yN v k)).map W,N,(aW (aA v).length br).map W,S,A,H,()))) ?_ ?_ f 0 _ ?_ (by omega) (by omega)
 ·rintro i _ again hi rfl ih
  unfold rq
  dsimp only
  have hr:(aA v)[i]? =some (aA v)[i]:=aO hi
  have hrm:=Xq hi
  generalize (aA v)[i]=r at hr hrm
  have hpc:=Q0 hr
  have hpo:=Sd hv i
  rw [az (by omega),bF,hr,Option.bind_some]
  rcases Bool.eq_false_or_eq_true v.2.2.2.2.2.1 with hper | hper
  ·rw [Vg hper,au (by omega) (by omega)]
   refine ih _ ?_
   have hp:C4 v=true:=hper
   simp only [hp,true_or,YM]
   rfl
  ·have hp:C4 v=false:=hper
   have hbm:((aW (aA v).length br).map W)[i]? =some (W (atB br i)):=by rw [List.getElem?_map,ux _ hi];rfl
   have htm:∃ y,(((List.range (aA v).length).map fun k=>if C4 v=true∨i≤k then 0 else wk (tv v) (atB br k) (yN v k)).map W)[i]? =some y:=⟨_,aO (by simp;omega)⟩
   obtain ⟨y0,hy0⟩:=htm
   rw [Vb hper,aH (by rw [Xu,iS];simp only [Wo,decide_eq_true_eq];omega),WQ,hbm,Option.bind_some]
   rw [show (v.1,v.2.1,v.2.2.1,v.2.2.2.1,v.2.2.2.2.1,v.2.2.2.2.2.1,v.2.2.2.2.2.2.1,v.2.2.2.2.2.2.2.1,v.2.2.2.2.2.2.2.2)=v from rfl, ← hpc,Ax v _ _ hpo ((Q6 hbr (by omega) i).mono (by omega)),Option.bind_some]
   dsimp only
   rw [aH (by simp only [Xu,Xx,Wo,decide_eq_true_eq];omega),hy0,Option.bind_some,au (by omega) (by omega), ← XE]
   refine ih _ ?_
   congr 13
   refine congrArg (fun z:List Int=>(z.map W,_)) ?_
   refine C7 _ _ _ _ _ (fun j hj hji=> ?_) ?_
   ·simp only [hp,Wr,YK]
    by_cases h1:i≤j
    ·rw [if_pos h1,if_pos (by omega)]
    ·rw [if_neg h1,if_neg (by omega)]
   ·simp only [hp,Wr,YK]
    rw [if_neg (by omega)]
 ·rintro _ again rfl
  unfold rq
  dsimp only
  rw [ay (by omega)]
  congr 12
  refine congrArg (fun z:List Int=>(z.map W,_)) ?_
  apply XB
  intro k hk
  rw [XP] at hk
  by_cases hp:C4 v=true
  ·rw [if_pos (.inl hp),if_pos hp]
  ·rw [if_neg (fun h=>h.elim hp (fun h=>by omega)),if_neg hp]
 ·simp only [Yu,or_true,YM]
  congr 13
  rw [WQ]
  refine congrArg (fun z:List aa=>(z,_)) ?_
  apply W8
  intro i
  by_cases hi:i<(aA v).length
  ·rw [List.getElem?_map,List.getElem?_map,Xh hi,Xi,if_pos hi];rfl
  ·rw [Xg (by simp;omega),Xg (by simp;omega)]
def D2 (v:aj) (br:Br) (i k:Nat):Int:=if C4 v=true then Ac (tv v) (yN v k) k (br.take i) else wk (tv v) (atB br k) (yN v k)
theorem TT {v:aj} (hv:oL v) {br:Br} (hbr:jv (aA v).length br) (hl:br.length≤1000) (L N B:List aa) (A:List aa) (H:List Bool) (f:Nat) (hf:br.length<f):
 iter f (((br.length:Int),(0:Int),v.1,v.2.1,v.2.2.1,v.2.2.2.1,v.2.2.2.2.1,v.2.2.2.2.2.1,v.2.2.2.2.2.2.1,v.2.2.2.2.2.2.2.1,v.2.2.2.2.2.2.2.2,L,((List.range (aA v).length).map (D2 v br 0)).map W,N,B,br.map shW,A,H,()):oy) rK=
  some (Sum.inr (v.1,v.2.1,v.2.2.1,v.2.2.2.1,v.2.2.2.2.1,v.2.2.2.2.2.1,v.2.2.2.2.2.2.1,v.2.2.2.2.2.2.2.1,v.2.2.2.2.2.2.2.2,L,(tP v br).map W,N,B,br.map shW,A,H,())):=by
 refine bN (Inv:=fun i X=>X=(((br.length:Int),(i:Int),v.1,v.2.1,v.2.2.1,v.2.2.2.1,v.2.2.2.2.1,v.2.2.2.2.2.1,v.2.2.2.2.2.2.1,v.2.2.2.2.2.2.2.1,v.2.2.2.2.2.2.2.2,L,((List.range (aA v).length).map (D2 v br i)).map W,N,B,br.map shW,A,H,()):oy)) br.length
  (fun r=>r=some (Sum.inr (v.1,v.2.1,v.2.2.1,v.2.2.2.1,v.2.2.2.2.1,v.2.2.2.2.2.1,v.2.2.2.2.2.2.1,v.2.2.2.2.2.2.2.1,v.2.2.2.2.2.2.2.2,L,(tP v br).map W,N,B,br.map shW,A,H,()))) ?_ ?_ f 0 _ rfl (by omega) (by omega)
 ·rintro i _ again hi rfl ih
  unfold rK
  dsimp only
  have hp:br[i]? =some br[i]:=aO hi
  have hpm:=Xq hi
  generalize br[i]=p at hp hpm
  have hpx:=hbr.ix p hpm
  have hpa:=hbr.am p hpm
  have hsm:(br.map shW)[i]? =some (shW p):=by rw [List.getElem?_map,hp];rfl
  rw [az (by omega),aH (by rw [Xu];simp only [Wo,decide_eq_true_eq];omega),WQ,hsm,Option.bind_some]
  have e1:(shW p).1=(p.1:Int):=rfl
  have e2:(shW p).2=W p.2:=rfl
  rw [e1,e2]
  rcases Bool.eq_false_or_eq_true v.2.2.2.2.2.1 with hper | hper
  ·have hpr:C4 v=true:=hper
   have hr:(aA v)[p.1]? =some (aA v)[p.1]:=aO hpx
   generalize (aA v)[p.1]=r at hr
   have hpc:=Q0 hr
   have hpo:=Sd hv p.1
   have htl:=Sk (way:=tv v) hpo p.1 (b:=br.take i) fun q hq=>hbr.am q (XN hq)
   have htl2:=VT (show (br.take i).length≤1000 by rw [Xz];omega) htl
   have hpt:Le 38 (wk (tv v) p.2 (yN v p.1)):=(OH (DD hpa) hpo:Le 35 _).mono (by omega)
   have hget:(((List.range (aA v).length).map (D2 v br i)).map W)[p.1]? =some (W (Ac (tv v) (yN v p.1) p.1 (br.take i))):=by
    rw [List.getElem?_map,List.getElem?_map,Xh hpx]
    unfold D2
    simp only [YB,hpr,YM]
   have hck:(decide (0≤(p.1:Int))&&decide ((p.1:Int)<((((List.range (aA v).length).map (D2 v br i)).map W).length:Int)))=true:=by
    simp only [Xu,Xx,Wo,decide_eq_true_eq];omega
   rw [VH hper,aH hck,WQ,hget,Option.bind_some,bF,show v.2.2.2.2.2.2.1=aA v from rfl,hr,Option.bind_some]
   rw [show (v.1,v.2.1,v.2.2.1,v.2.2.2.1,v.2.2.2.2.1,v.2.2.2.2.2.1,aA v,v.2.2.2.2.2.2.2.1,v.2.2.2.2.2.2.2.2)=v from rfl, ← hpc,Ax v _ _ hpo ((DD hpa).mono (by omega)),Option.bind_some]
   dsimp only
   rw [dJ _ _ (htl2.w (by omega)) (hpt.w (by omega)),Option.bind_some,aH hck,Option.bind_some,au (by omega) (by omega), ← XE]
   refine ih _ ?_
   congr 12
   refine congrArg (fun z:List Int=>(z.map W,_)) ?_
   have htk:br.take (i+1)=br.take i++[p]:=by rw [X0,hp];rfl
   refine C7 _ _ _ _ _ (fun j hj hji=> ?_) ?_
   ·unfold D2
    simp only [hpr,YM,htk,Gd,Ac]
    rw [if_neg (fun e=>hji e.symm)];omega
   ·unfold D2
    simp only [hpr,YM,htk,Gd,Ac]
    omega
  ·have hpr:C4 v=false:=hper
   rw [VE hper,au (by omega) (by omega)]
   refine ih _ ?_
   congr 12
   refine congrArg (fun z:List Int=>(z.map W,_)) ?_
   apply XB
   intro k _
   unfold D2
   simp [hpr]
 ·rintro _ again rfl
  unfold rK
  dsimp only
  rw [ay (by omega)]
  congr 12
  refine congrArg (fun z:List Int=>(z.map W,_)) ?_
  apply XB
  intro k _
  unfold D2 VS
  rw [X3 (Yc _)]
theorem VI {v:aj} (hv:oL v) (nets lines am:List Int) {br:Br} (hbr:jv (aA v).length br) (hl:br.length≤1000) (has:List Bool):
 wL (Bx v nets lines (aW (aA v).length br) br am has [])=some (bif bB (tP v br) then 0 else 1,Bx v nets lines (aW (aA v).length br) br am has (tP v br),()):=by
 have hrn:0<(aA v).length∧(aA v).length≤20:=hv.rn
 unfold wL Bx
 dsimp only
 rw [Xu,iS,aH (by simp only [Wo,decide_eq_true_eq];omega),T0 hv hbr hl (lines.map W) (nets.map W) (br.map shW) (am.map W) has _ ?_,aE]
 ·dsimp only
  have e0:((List.range (aA v).length).map fun k=>if C4 v=true then 0 else wk (tv v) (atB br k) (yN v k))=(List.range (aA v).length).map (D2 v br 0):=by
   apply XB
   intro k _
   unfold D2
   split<;>rfl
  rw [e0,Xu,TT hv hbr hl (lines.map W) (nets.map W) ((aW (aA v).length br).map W) (am.map W) has _ ?_,aE]
  ·dsimp only
   rw [Px _ (by unfold tP;simp;omega),Option.bind_some]
   dsimp only
   cases bB (tP v br)<;>rfl
  ·simp;omega
 ·simp;omega
end Go.Md
namespace Go.Md
open Go.Dn
theorem Bu (v:aj) (lines:List Int):∀ (a b:List aG) (s:ESt),ji v lines (a++b) s=match ji v lines a s with | .inl f=> .inl f | .inr t=>ji v lines b t
 | [],b,s=>rfl
 | x::a,b,s=>by
  simp only [WY,ji]
  cases An v lines x with
  | inl f=>rfl
  | inr t=>
   dsimp only
   cases bB (aW (aA v).length (s.1++t.2.1)) with
   | true=>simp only [cond_true];exact Bu v lines a b _
   | false=>rfl
theorem QX {v:aj} {lines:List Int} {l:List aG} {i:Nat} {x:aG} (hx:l[i]? =some x) {s t:ESt} (h:ji v lines (l.take i) s= .inr t):
 ji v lines (l.take (i+1)) s=match An v lines x with | .inl f=> .inl f | .inr r=>bif bB (aW (aA v).length (t.1++r.2.1)) then .inr (t.1++r.2.1,t.2.1++r.2.2,t.2.2++[r.1]) else .inl 1:=by
 rw [X0,hx,Bu,h]
 simp only [Option.toList,ji]
 cases An v lines x<;>rfl
theorem Ke {v:aj} {lines:List Int} {l:List aG} {i:Nat} {s:ESt} {f:Int} (h:ji v lines (l.take i) s= .inl f):ji v lines l s= .inl f:=by
 have:=Bu v lines (l.take i) (l.drop i) s
 rw [X1,h] at this
 exact this
def x4 (v:aj) (lines:List Int) (s:ShZ):fZ:=(v,s.nets.map W,lines.map W,(aW (aA v).length s.br).map W,s.br.map shW,s.am.map W,cW (aA v).length s.fl,s.taxes.map W)
theorem Rn {v:aj} (hv:oL v) (nets lines:List Int) (hll:lines.length=(aA v).length) (hal:bB lines=true) {lb:Br} (hlb:jv (aA v).length lb) (hlbl:lb.length≤500) (fl0:List Nat) (ar:List fZ) (f:Nat) (hf:(iU v).length<f):
 (∃ s:ESt,ji v lines (iU v) (lb,fl0,[])= .inr s∧jv (aA v).length s.1∧s.1.length≤900∧
   iter f ((iU v,((iU v).length:Int),(0:Int),v.1,v.2.1,v.2.2.1,v.2.2.2.1,v.2.2.2.2.1,v.2.2.2.2.2.1,v.2.2.2.2.2.2.1,v.2.2.2.2.2.2.2.1,v.2.2.2.2.2.2.2.2,nets.map W,lines.map W,(aW (aA v).length lb).map W,lb.map shW,([]:List aa),cW (aA v).length fl0,([]:List aa),ar,()):l6) ou=
    some (Sum.inr (v.1,v.2.1,v.2.2.1,v.2.2.2.1,v.2.2.2.2.1,v.2.2.2.2.2.1,v.2.2.2.2.2.2.1,v.2.2.2.2.2.2.2.1,v.2.2.2.2.2.2.2.2,nets.map W,lines.map W,(aW (aA v).length s.1).map W,s.1.map shW,s.2.2.map W,cW (aA v).length s.2.1,([]:List aa),ar,())))∨
 (∃ fa,fa≠0∧ji v lines (iU v) (lb,fl0,[])= .inl fa∧
   iter f ((iU v,((iU v).length:Int),(0:Int),v.1,v.2.1,v.2.2.1,v.2.2.2.1,v.2.2.2.2.1,v.2.2.2.2.2.1,v.2.2.2.2.2.2.1,v.2.2.2.2.2.2.2.1,v.2.2.2.2.2.2.2.2,nets.map W,lines.map W,(aW (aA v).length lb).map W,lb.map shW,([]:List aa),cW (aA v).length fl0,([]:List aa),ar,()):l6) ou=some (Sum.inl (none,fa,ar,()))):=by
 have hxl:(iU v).length≤20:=(DE hv.ext).1
 have hxe:=(DE hv.ext).2
 refine bN (Inv:=fun i X=>∃ s:ESt,ji v lines ((iU v).take i) (lb,fl0,[])= .inr s∧jv (aA v).length s.1∧s.1.length≤500+20*i∧s.2.2.length=i∧X=((iU v,((iU v).length:Int),(i:Int),v.1,v.2.1,v.2.2.1,v.2.2.2.1,v.2.2.2.2.1,v.2.2.2.2.2.1,v.2.2.2.2.2.2.1,v.2.2.2.2.2.2.2.1,v.2.2.2.2.2.2.2.2,nets.map W,lines.map W,(aW (aA v).length s.1).map W,s.1.map shW,s.2.2.map W,cW (aA v).length s.2.1,([]:List aa),ar,()):l6)) (iU v).length
  (fun r=>(∃ s:ESt,ji v lines (iU v) (lb,fl0,[])= .inr s∧jv (aA v).length s.1∧s.1.length≤900∧r=some (Sum.inr (v.1,v.2.1,v.2.2.1,v.2.2.2.1,v.2.2.2.2.1,v.2.2.2.2.2.1,v.2.2.2.2.2.2.1,v.2.2.2.2.2.2.2.1,v.2.2.2.2.2.2.2.2,nets.map W,lines.map W,(aW (aA v).length s.1).map W,s.1.map shW,s.2.2.map W,cW (aA v).length s.2.1,([]:List aa),ar,())))∨
    (∃ fa,fa≠0∧ji v lines (iU v) (lb,fl0,[])= .inl fa∧r=some (Sum.inl (none,fa,ar,())))) ?_ ?_ f 0 _ ⟨(lb,fl0,[]),rfl,hlb,by simpa using hlbl,rfl,rfl⟩ (by omega) (by omega)
 ·rintro i _ again hi ⟨s,h1,h2,h3,h4,rfl⟩ ih
  unfold ou
  dsimp only
  have hx:(iU v)[i]? =some (iU v)[i]:=aO hi
  have hxm:=Xq hi
  generalize (iU v)[i]=x at hx hxm
  have hxo:=(hxe x hxm).1
  have hst:=QX hx h1
  rw [az (by omega),bF,hx,Option.bind_some]
  have he:=UQ hv nets s.2.2 [] hll hal h2 (by omega) (by omega) s.2.1 hxo
  unfold Bx at he
  rw [show (v.1,v.2.1,v.2.2.1,v.2.2.2.1,v.2.2.2.2.1,v.2.2.2.2.2.1,v.2.2.2.2.2.2.1,v.2.2.2.2.2.2.2.1,v.2.2.2.2.2.2.2.2)=v from rfl]
  rcases he with ⟨d,p,g,g1,g2,g3,g4⟩ | ⟨fa,b,g0,g1,g4⟩
  ·rw [g1] at hst
   dsimp only at hst
   rw [show ([]:List aa)=([]:List Int).map W from rfl,g4,Option.bind_some]
   dsimp only
   cases ha:bB (aW (aA v).length (s.1++p)) with
   | true=>
    rw [ha,cond_true] at hst
    rw [cond_true,show ((0:Int) != 0)=false from rfl,cond_false,au (by omega) (by omega)]
    exact ih _ ⟨_,hst,g2,by rw [Xr];omega,by rw [Xr];simp [h4],rfl⟩
   | false=>
    rw [ha,cond_false] at hst
    rw [cond_false,show ((1:Int) != 0)=true from rfl,cond_true]
    exact .inr ⟨1,by omega,Ke hst,rfl⟩
  ·rw [g1] at hst
   rw [show ([]:List aa)=([]:List Int).map W from rfl,g4,Option.bind_some]
   dsimp only
   rw [show (fa != 0)=true by simpa using g0,cond_true]
   exact .inr ⟨fa,g0,Ke hst,rfl⟩
 ·rintro _ again ⟨s,h1,h2,h3,h4,rfl⟩
  unfold ou
  dsimp only
  rw [ay (by omega)]
  rw [X3 (Yc _)] at h1
  exact .inl ⟨s,h1,h2,by omega,rfl⟩
theorem Ld {v:aj} (h0:CS v=0):
 (∃ lines s,Ho v= .inr s∧jv (aA v).length s.br∧s.br.length≤900∧mO v []=some (some 0,0,[x4 v lines s],()))∨
 (∃ f,f≠0∧Ho v= .inl f∧mO v []=some (none,f,[],())):=by
 have hv:=OX h0
 have hrn:0<(aA v).length∧(aA v).length≤20:=hv.rn
 have hln:0<(cK v).length∧(cK v).length≤500:=hv.ln
 unfold mO Ho
 rw [zX,Option.bind_some]
 dsimp only
 rw [h0,show ((0:Int) != 0)=false from rfl,cond_false]
 rcases Nk hv with ⟨lb,h1,h2,h3,h4,e⟩ | ⟨h1,b,e⟩
 ·rw [e,Option.bind_some,h1]
  unfold Bx
  dsimp only
  rw [show ((0:Int) != 0)=false from rfl,cond_false,h4,cond_true]
  have hll:=iS (aA v).length lb
  have hve:(iU v).length=v.2.2.2.2.2.2.2.2.length:=rfl
  rcases Rn hv (lb.map (·.2)) (aW (aA v).length lb) hll h4 h2 (by omega) (lb.map (·.1)) [] (v.2.2.2.2.2.2.2.2.length+(Int.natAbs ((v.2.2.2.2.2.2.2.2.length:Int))+(Int.natAbs (0:Int)+(v.1.length+(v.2.1.length+(v.2.2.1.natAbs+(v.2.2.2.1.natAbs+(v.2.2.2.2.1.natAbs+(v.2.2.2.2.2.2.1.length+(v.2.2.2.2.2.2.2.1.length+(v.2.2.2.2.2.2.2.2.length+(List.length ((lb.map (·.2)).map W)+(List.length ((aW (aA v).length lb).map W)+(List.length ((aW (aA v).length lb).map W)+(List.length (lb.map shW)+(List.length ([]:List aa)+(List.length (cW (aA v).length (lb.map (·.1)))+(List.length ([]:List aa)+(List.length ([]:List fZ)+2))))))))))))))))))) (by omega) with ⟨s,g1,g2,g3,g4⟩ | ⟨fa,g0,g1,g4⟩
  ·rw [g1]
   dsimp only
   rw [show ([]:List Int).map W=([]:List aa) from rfl,g4,aE]
   dsimp only
   have ht:=VI hv (lb.map (·.2)) (aW (aA v).length lb) s.2.2 g2 (by omega) (cW (aA v).length s.2.1)
   unfold Bx at ht
   rw [show ([]:List Int).map W=([]:List aa) from rfl] at ht
   rw [show (v.1,v.2.1,v.2.2.1,v.2.2.2.1,v.2.2.2.2.1,v.2.2.2.2.2.1,v.2.2.2.2.2.2.1,v.2.2.2.2.2.2.2.1,v.2.2.2.2.2.2.2.2)=v from rfl,ht,Option.bind_some]
   dsimp only
   cases ha:bB (tP v s.1) with
   | true=>
    rw [cond_true,cond_true,show ((0:Int) != 0)=false from rfl,cond_false]
    exact .inl ⟨_,_,rfl,g2,g3,rfl⟩
   | false=>
    rw [cond_false,cond_false,show ((1:Int) != 0)=true from rfl,cond_true]
    exact .inr ⟨1,by omega,rfl,rfl⟩
  ·rw [g1]
   dsimp only
   rw [show ([]:List Int).map W=([]:List aa) from rfl,g4,iV]
   exact .inr ⟨fa,g0,rfl,rfl⟩
 ·rw [e,Option.bind_some]
  dsimp only
  rw [show ((1:Int) != 0)=true from rfl,cond_true]
  refine .inr ⟨1,by omega, ?_,rfl⟩
  rcases h1 with h1 | ⟨lb,h1,h2⟩
  ·rw [h1]
  ·rw [h1]
   dsimp only
   rw [h2];rfl
end Go.Md
namespace Go.Md
open Go.Dn
theorem Pd {v:aj} (hv:oL v):∀ {l:List ax} {lb:Br},(∀ x∈l,x∈cK v)→gY v l=some lb→jv (aA v).length lb∧lb.length=l.length∧∀ (i:Nat) (x:ax) (p:Nat×Int),l[i]? =some x→lb[i]? =some p→C8 v x=some p.2∧p.1=PR v x
 | [],lb,_,h=>by simp only [gY,Option.some.injEq] at h;subst h;exact ⟨⟨by simp,by simp⟩,rfl,by simp⟩
 | x::l,lb,hm,h=>by
  simp only [gY] at h
  cases hn:C8 v x with
  | none=>rw [hn] at h;cases h
  | some z=>
   rw [hn] at h
   simp only at h
   cases hl:gY v l with
   | none=>rw [hl] at h;cases h
   | some lb'=>
    rw [hl] at h
    simp only [YB,Option.some.injEq] at h
    subst h
    obtain ⟨h1,h2,h3⟩:=Pd hv (fun y hy=>hm y (XH _ hy)) hl
    have hxo:=hv.lines x (hm x XI)
    obtain ⟨k,hk⟩:=Yy.1 hxo.rate
    obtain ⟨rt,hrt,_⟩:=qs hk
    have hkl:k<(aA v).length:=(List.getElem?_eq_some_iff.1 hrt).1
    refine ⟨⟨fun p hp=> ?_,fun p hp=> ?_⟩,by simp [h2],fun i y p hi hp=> ?_⟩
    ·rcases XG.1 hp with rfl | hp
     ·show (jM (·.1) x.2.2.2.2.2.2.2.2 (aA v)).getD 0<_
      rw [hk];exact hkl
     ·exact h1.ix p hp
    ·rcases XG.1 hp with rfl | hp
     ·exact (Pc hn).2
     ·exact h1.am p hp
    ·cases i with
     | zero=>
      simp only [Xe,Option.some.injEq] at hi hp
      subst hi;subst hp;exact ⟨hn,rfl⟩
     | succ i=>
      simp only [Xd] at hi hp
      exact h3 i y p hi hp
theorem Rc:∀ (l:List Int) (k:Nat),(jh k l).length≤l.length
 | [],k=>by simp [jh]
 | y::l,k=>by
  have:=Rc l (k+1)
  simp only [jh]
  split<;>simp<;>omega
theorem Ui {n:Nat} (hn0:0<n) (hn:n≤20) {o:Option Nat} (ho:∀ k,o=some k→k<n) {lines:List Int} (hll:lines.length=n) {d d':Int} {p:Br} {g:List Nat} (h:xG o d lines= .inr (d',p,g)):
 d'=d∧rU d=true∧jv n p∧p.length≤20∧(p.map (·.2)).sum=d∧∀ q∈p,q.2≠0→q.1∈g:=by
 unfold xG at h
 cases him:rU d with
 | false=>rw [him] at h;cases h
 | true=>
  rw [him,cond_true] at h
  have hd:=tF.1 him
  cases o with
  | some k=>
   simp only [Sum.inr.injEq,Prod.mk.injEq] at h
   obtain ⟨rfl,rfl,rfl⟩:=h
   exact ⟨rfl,rfl,⟨by simpa using ho k rfl,by simpa using hd⟩,by simp,by simp,by simp⟩
  | none=>
   dsimp only at h
   cases hz:(lines.all fun b=>b==0) with
   | true=>
    rw [hz,cond_true] at h
    simp only [Sum.inr.injEq,Prod.mk.injEq] at h
    obtain ⟨rfl,rfl,rfl⟩:=h
    refine ⟨rfl,rfl,⟨by simpa using hn0,by simpa using hd⟩,by simp,by simp,fun q hq hq0=> ?_⟩
    rw [XQ.1 hq] at hq0 ⊢
    rw [show (d==0)=false by simpa using hq0,cond_false]
    simp
   | false=>
    rw [hz,cond_false] at h
    cases hw:(lines.any fun b=>decide (MW<b.natAbs)) with
    | true=>rw [hw] at h;cases h
    | false=>
     rw [hw,cond_false] at h
     simp only [Sum.inr.injEq,Prod.mk.injEq] at h
     obtain ⟨rfl,rfl,rfl⟩:=h
     have hpos:=F7 hz
     have hmem:=Ms (iD d (lines.map Int.natAbs)) 0
     have hxl:(iD d (lines.map Int.natAbs)).length=n:=by rw [LN,Xu,hll]
     refine ⟨rfl,rfl,⟨fun q hq=> ?_,fun q hq=> ?_⟩, ?_, ?_,fun q hq _=>List.mem_map_of_mem hq⟩
     ·have:=(hmem q hq).2.1;omega
     ·have:=NH (n:=d) hpos (hmem q hq).2.2.1;omega
     ·have:=Rc (iD d (lines.map Int.natAbs)) 0;omega
     ·rw [P5,RH hpos]
theorem jv.append {n:Nat} {a b:Br} (ha:jv n a) (hb:jv n b):jv n (a++b):=
 ⟨fun p hp=>(XF.1 hp).elim (ha.ix p) (hb.ix p),fun p hp=>(XF.1 hp).elim (ha.am p) (hb.am p)⟩
theorem Ni {v:aj} (hv:oL v) {lines:List Int} (hll:lines.length=(aA v).length):∀ (l:List aG) (s t:ESt),ji v lines l s= .inr t→jv (aA v).length s.1→bB s.2.2=true→(∀ q∈s.1,q.2≠0→q.1∈s.2.1)→bB (aW (aA v).length s.1)=true→
 jv (aA v).length t.1∧t.1.length≤s.1.length+20*l.length∧bB t.2.2=true∧t.2.2.length=s.2.2.length+l.length∧(t.1.map (·.2)).sum=(s.1.map (·.2)).sum+(t.2.2.sum - s.2.2.sum)∧(∀ q∈t.1,q.2≠0→q.1∈t.2.1)∧bB (aW (aA v).length t.1)=true
 | [],s,t,h,h1,h2,h3,h4=>by
  simp only [ji,Sum.inr.injEq] at h
  subst h
  exact ⟨h1,by simp,h2,by simp,by omega,h3,h4⟩
 | x::l,s,t,h,h1,h2,h3,h4=>by
  have hrn:0<(aA v).length∧(aA v).length≤20:=hv.rn
  simp only [ji] at h
  cases hb:An v lines x with
  | inl f=>rw [hb] at h;cases h
  | inr r=>
   obtain ⟨d,p,g⟩:=r
   rw [hb] at h
   dsimp only at h
   unfold An at hb
   have hbo:=Ui hrn.1 hrn.2 (fun k hk=>by obtain ⟨rt,hrt,_⟩:=qs hk;exact (List.getElem?_eq_some_iff.1 hrt).1) hll hb
   obtain ⟨rfl,g1,g2,g3,g4,g5⟩:=hbo
   cases ha:bB (aW (aA v).length (s.1++p)) with
   | false=>rw [ha] at h;cases h
   | true=>
    rw [ha,cond_true] at h
    generalize kK (tv v) (vPl v) (Aq v lines x) x=d at*
    obtain ⟨k1,k2,k3,k4,k5,k6,k7⟩:=Ni hv hll l _ t h (h1.append g2) (by unfold bB at *;rw [List.all_append,h2];simpa using g1) (fun q hq hq0=>by
     rcases XF.1 hq with hq | hq
     ·exact XF.2 (.inl (h3 q hq hq0))
     ·exact XF.2 (.inr (g5 q hq hq0))) ha
    dsimp only at k2 k4 k5
    refine ⟨k1, ?_,k3, ?_, ?_,k6,k7⟩
    ·rw [Xr] at k2;simp only [Xs];omega
    ·rw [Xr] at k4;simp only [Xs,Xv] at k4 ⊢;omega
    ·rw [k5,XA,XY,g4,XY];simp;omega
structure SOk (v:aj) (s:ShZ):Prop where
 nets:bB s.nets=true
 netl:s.nets.length=(cK v).length
 neti:∀ (i:Nat) (x:ax) (z:Int),(cK v)[i]? =some x→s.nets[i]? =some z→C8 v x=some z
 br:jv (aA v).length s.br
 brl:s.br.length≤900
 bs:bB (aW (aA v).length s.br)=true
 am:bB s.am=true
 aml:s.am.length≤20
 tx:bB s.taxes=true
 txe:s.taxes=tP v s.br
 sum:(s.br.map (·.2)).sum=s.nets.sum+s.am.sum
 fl:∀ q∈s.br,q.2≠0→q.1∈s.fl
theorem TY {v:aj} (hv:oL v) {s:ShZ} (h:Ho v= .inr s):SOk v s:=by
 have hln:0<(cK v).length∧(cK v).length≤500:=hv.ln
 have hxl:(iU v).length≤20:=(DE hv.ext).1
 unfold Ho at h
 cases hl:gY v (cK v) with
 | none=>rw [hl] at h;cases h
 | some lb=>
  rw [hl] at h
  dsimp only at h
  cases ha:bB (aW (aA v).length lb) with
  | false=>rw [ha] at h;cases h
  | true=>
   rw [ha,cond_true] at h
   cases he:ji v (aW (aA v).length lb) (iU v) (lb,lb.map (·.1),[]) with
   | inl f=>rw [he] at h;cases h
   | inr t=>
    rw [he] at h
    dsimp only at h
    cases ht:bB (tP v t.1) with
    | false=>rw [ht] at h;cases h
    | true=>
     rw [ht,cond_true] at h
     cases h
     obtain ⟨b1,b2,b3⟩:=Pd hv (fun x hx=>hx) hl
     obtain ⟨k1,k2,k3,k4,k5,k6,k7⟩:=Ni hv (iS _ _) _ _ t he b1 rfl (fun q hq _=>List.mem_map_of_mem hq) ha
     dsimp only at k2 k4 k5
     refine ⟨?_,by simp [b2],fun i x z hx hz=> ?_,k1,by show t.1.length≤900;omega,k7,k3,by show t.2.2.length≤20;simp only [Xv] at k4;omega,ht,rfl,by rw [k5];simp,k6⟩
     ·show bB (lb.map (·.2))=true
      unfold bB
      rw [WS]
      intro z hz
      obtain ⟨p,hp,rfl⟩:=XM.1 hz
      exact tF.2 (b1.am p hp)
     ·simp only [List.getElem?_map] at hz
      cases hp:lb[i]? with
      | none=>rw [hp] at hz;cases hz
      | some p=>
       rw [hp] at hz
       simp only [YB,Option.some.injEq] at hz
       subst hz
       exact (b3 i x p hx hp).1
def VA (v:aj) (s:ShZ):vn:=(KF v s.nets.sum,KF v s.am.sum,KF v (s.nets.sum+s.am.sum),KF v s.taxes.sum,KF v (s.nets.sum+s.am.sum+s.taxes.sum))
theorem F8 {l:List Int} (hl:l.length≤1000) (hal:bB l=true):Bc (l.map W)=some (W l.sum,()):=by
 unfold Bc
 rw [dS 0 (by omega) (by omega),Option.bind_some]
 dsimp only
 have loop:∀ f,l.length<f→iter f ((l.map W,(l.length:Int),(0:Int),false,([]:List Int),(W 0).1,(W 0).2,()):xD) BS=some (Sum.inr (false,([]:List Int),(W l.sum).1,(W l.sum).2,())):=by
  intro f hf
  refine bN (Inv:=fun i X=>X=((l.map W,(l.length:Int),(i:Int),false,([]:List Int),(W (l.take i).sum).1,(W (l.take i).sum).2,()):xD)) l.length (fun r=>r=some (Sum.inr (false,([]:List Int),(W l.sum).1,(W l.sum).2,()))) ?_ ?_ f 0 _ rfl (by omega) (by omega)
  ·rintro i _ again hi rfl ih
   unfold BS
   dsimp only
   have hz:l[i]? =some l[i]:=aO hi
   have hzm:rU l[i]=true:=WS.1 hal _ (Xq hi)
   generalize l[i]=z at hz hzm
   have h1:=yX (l:=l.take i) (by rw [Xz];omega) (MR hal i)
   have h2:=DD (tF.1 hzm)
   rw [az (by omega),bF,List.getElem?_map,hz,YB,Option.bind_some,show ((W (l.take i).sum).1,(W (l.take i).sum).2)=W (l.take i).sum from rfl,dJ _ _ (h1.w (by omega)) (h2.w (by omega)),Option.bind_some,au (by omega) (by omega), ← Hl hz]
   exact ih _ rfl
  ·rintro _ again rfl
   unfold BS
   dsimp only
   rw [ay (by omega),X3 (Yc _)]
 rw [Xu,loop _ (by omega),aE]
theorem vH (v:aj) (lines:List Int) (s:ShZ) {z:Int} (hz:rU z=true):jT (some 0) (W z) [x4 v lines s]=some (KF v z,()):=by
 have h:=tF.1 hz
 have:=Ih
 unfold jT
 rw [Option.bind_some,show ([x4 v lines s]:List fZ)[0]? =some (x4 v lines s) from rfl,Option.bind_some,Bt,if_pos (by omega),Option.bind_some]
 rfl
theorem OD {v:aj} (hv:oL v) (lines:List Int) {s:ShZ} (hs:SOk v s):
 ru (some 0) [x4 v lines s]=some (bif bB (Ie s) then (VA v s,0,()) else (((0,0),(0,0),(0,0),(0,0),0,0),1,())):=by
 have hln:0<(cK v).length∧(cK v).length≤500:=hv.ln
 have hrn:0<(aA v).length∧(aA v).length≤20:=hv.rn
 have htl:s.taxes.length≤20:=by rw [hs.txe];unfold tP;simp;omega
 have hnl:=hs.netl;have haml:=hs.aml
 have n1:=yX (by omega) hs.nets
 have n2:=yX (by omega) hs.am
 have n3:=yX (by omega) hs.tx
 have n4:=(n1.add n2)
 have n5:=(n4.add (n3.mono (show 19≤20 by omega)))
 unfold ru
 have hg:([x4 v lines s]:List fZ)[0]? =some (x4 v lines s):=rfl
 simp only [Option.bind_some,hg]
 rw [show (x4 v lines s).2.1=s.nets.map W from rfl,F8 (by omega) hs.nets,Option.bind_some]
 rw [show (x4 v lines s).2.2.2.2.2.1=s.am.map W from rfl,F8 (by omega) hs.am,Option.bind_some]
 rw [show (x4 v lines s).2.2.2.2.2.2.2=s.taxes.map W from rfl,F8 (by omega) hs.tx,Option.bind_some]
 dsimp only
 rw [dJ _ _ (n1.w (by omega)) (n2.w (by omega)),Option.bind_some]
 dsimp only
 rw [dJ _ _ (n4.w (by omega)) (n3.w (by omega)),Option.bind_some]
 dsimp only
 rw [show [W s.nets.sum,W s.am.sum,W (s.nets.sum+s.am.sum),W s.taxes.sum,W (s.nets.sum+s.am.sum+s.taxes.sum)]=(Ie s).map W from rfl,PK _ (by unfold Ie;simp),Option.bind_some]
 dsimp only
 cases ha:bB (Ie s) with
 | false=>rfl
 | true=>
  have hal:=ha
  unfold bB Ie at hal
  simp only [WR,List.all_nil,Wq,Wo] at hal
  obtain ⟨a1,a2,a3,a4,a5⟩:=hal
  rw [Bool.not_true,cond_false,vH v lines s a1,Option.bind_some,vH v lines s a2,Option.bind_some,vH v lines s a3,Option.bind_some,vH v lines s a4,Option.bind_some,vH v lines s a5,Option.bind_some]
  rfl
def SL:vn:=((0,0),(0,0),(0,0),(0,0),0,0)
def zk (v:aj):vn×Int×Unit:=if CS v≠0 then (SL,CS v,()) else match NV v with | .inl f=>(SL,f,()) | .inr s=>(VA v s,0,())
theorem M4 {v:aj} (h:CS v≠0):mO v []=some (none,CS v,[],()):=by
 unfold mO
 rw [zX,Option.bind_some]
 dsimp only
 rw [show (CS v != 0)=true by simpa using h,cond_true]
theorem Od (v:aj):BU v=some (zk v):=by
 unfold BU zk
 by_cases h0:CS v=0
 ·rw [if_neg (by simpa using h0)]
  have hv:=OX h0
  unfold NV
  rcases Ld h0 with ⟨lines,s,h1,h2,h3,e⟩ | ⟨f,hf,h1,e⟩
  ·have hs:=TY hv h1
   rw [e,Option.bind_some,h1]
   dsimp only
   rw [show ((0:Int) != 0)=false from rfl,cond_false,OD hv lines hs,Option.bind_some]
   cases ha:bB (Ie s)<;>rfl
  ·rw [e,Option.bind_some,h1]
   dsimp only
   rw [show (f != 0)=true by simpa using hf,cond_true]
   rfl
 ·rw [if_pos h0,M4 h0,Option.bind_some]
  dsimp only
  rw [show (CS v != 0)=true by simpa using h0,cond_true]
  rfl
end Go.Md
namespace Go.Md
open Go.Dn
theorem Gj:B7=some (true,()):=by kernel_rfl
theorem TL:told 0=(0,0):=by unfold told;rw [Qi];rfl
theorem MM (day:Int) (ar:List Bd):∀ l:List (Option Nat),l.foldl (oK day) (0,ar)=(0,ar)
 | []=>rfl
 | o::l=>by
  have h:oK day (0,ar) o=(0,ar):=by
   unfold oK
   cases o with
   | none=>rfl
   | some h=>
    dsimp only
    cases ar[h]? with
    | none=>rfl
    | some x=>dsimp only;rw [if_neg (by omega)]
  rw [Xa,h]
  exact MM day ar l
theorem QZ {n:List UInt8} {day days:Int} {m m':ak} (hd:iL [(n,day,m,days,0,0)]=0) (hm:jc m') (hc:bu m'≤bu m):
 yz [(n,day,m,days,0,0)] [(day,m',[n])]=some ([(n,told (bu m'),told 0,if bu m'=bu m then day else 0)],[told 0],0,()):=by
 have hd0:=hd
 unfold iL at hd
 rw [if_neg (by simp)] at hd
 have h1:yt [(n,day,m,days,0,0)] 0 (n,day,m,days,0,0)=0:=by
  have:=qj hd 0 _ rfl
  exact this
 unfold yt at h1
 dsimp only at h1
 split at h1
 ·cases h1
 rename_i hn
 split at h1
 ·cases h1
 split at h1
 ·cases h1
 rename_i hday
 split at h1
 ·cases h1
 split at h1
 ·cases h1
 rename_i hmon
 have hmon:jc m:=by simpa using hmon
 have hday:1≤day∧day≤3652059:=by simpa using hday
 have hnm:qU n=true:=by simpa using hn
 have hp:BI [(day,m',[n])]=0:=by
  unfold BI
  rw [if_neg (by simp)]
  have e:HM [(day,m',[n])] 0 (day,m',[n])=0:=by
   unfold HM
   dsimp only
   rw [if_neg (by simpa using hday),if_neg (by simp [Eg]),if_neg (by simpa using hm),if_neg (by simp)]
   simp only [dP]
   have:oH [n] 0 n=0:=by
    unfold oH
    rw [hnm,if_neg (by simp),if_neg (by simp)]
   rw [this,if_pos rfl]
  simp only [dP]
  rw [e,if_pos rfl]
 rcases RO [(n,day,m,days,0,0)] [(day,m',[n])] with ⟨f,hf,_,e⟩ | ⟨_,_,order,_,_,e⟩
 ·rw [hd0,hp] at e
  simp at e
  exact absurd e hf
 ·rw [e]
  have h0:=hm.bu
  have h9:=hmon.bu
  have hfind:mZ n [(n,day,m,days,0,0)] 0 none=some 0:=by simp [mZ]
  have hs:oG day (fun k=>mZ k [(n,day,m,days,0,0)] 0 none) (bu m',[((n,day,m,days,0,0),bu m,0,0,0)]) n=(0,[((n,day,m,days,0,0),bu m - bu m',bu m',0,if bu m'=bu m then day else 0)]):=by
   unfold oG
   dsimp only
   rw [hfind]
   dsimp only
   rw [show ([((n,day,m,days,0,0),bu m,0,0,0)]:List Bd)[0]? =some ((n,day,m,days,0,0),bu m,0,0,0) from rfl]
   dsimp only
   have ht:uf day ((n,day,m,days,0,0),bu m,0,0,0)=true:=by simp [uf,done]
   rw [if_pos ht]
   have hdisc:uS ((n,day,m,days,0,0),bu m,0,0,0)=0:=by
    unfold uS lV
    dsimp only
    rw [Int.mul_zero,Int.zero_ediv,Int.zero_mul]
    omega
   have hN:nG (bu m') day ((n,day,m,days,0,0),bu m,0,0,0)=(0,((n,day,m,days,0,0),bu m - bu m',bu m',0,if bu m'=bu m then day else 0)):=by
    unfold nG
    by_cases hcc:bu m'=bu m
    ·rw [if_neg (by rw [hdisc];show ¬(bu m'<bu m - 0∨day+0<day);omega),hdisc,if_pos hcc,hcc]
     simp [nB,lV]
    ·rw [if_pos (by rw [hdisc];show bu m'<bu m - 0∨day+0<day;omega),if_neg hcc]
     unfold u9
     have hmin:min (bu m') (bu m)=bu m':=by omega
     have hne:¬(bu m - bu m'=0):=by omega
     simp [lV,nB,taken,done,hmin,hne]
   rw [hN]
   rfl
  have hone:Hj (fun k=>mZ k [(n,day,m,days,0,0)] 0 none) order (day,m',[n]) (iq [(n,day,m,days,0,0)])=(0,[((n,day,m,days,0,0),bu m - bu m',bu m',0,if bu m'=bu m then day else 0)]):=by
   unfold Hj
   rw [show iq [(n,day,m,days,0,0)]=[((n,day,m,days,0,0),bu m,0,0,0)] from rfl]
   dsimp only
   rw [Xa,List.foldl_nil,hs,MM]
  have hall:iH (fun k=>mZ k [(n,day,m,days,0,0)] 0 none) order 3652059 [(day,m',[n])] [] (iq [(n,day,m,days,0,0)])=([0],[((n,day,m,days,0,0),bu m - bu m',bu m',0,if bu m'=bu m then day else 0)]):=by
   unfold iH
   dsimp only
   rw [if_neg (by omega),hone]
   rfl
  rw [hall]
  rfl
theorem Uz {u p:Int} (h:jc (u,p)) (h1:u - 1≠0):jc (u - 1,p)∧bu (u - 1,p)<bu (u,p):=by
 obtain ⟨a,b,c,d⟩:=h
 dsimp only at a b c d
 refine ⟨⟨by dsimp only;omega,b,c,by dsimp only;omega⟩, ?_⟩
 unfold bu
 dsimp only
 have hp:=sS (4 - p).toNat
 rw [Int.sub_mul]
 omega
theorem Jd (v:aj) (days:Int):kE v days=some (true,()):=by
 unfold kE
 rw [Od,Option.bind_some]
 by_cases h0:(zk v).2.1=0
 ·rw [show ((zk v).2.1 != 0)=false by simpa using h0,cond_false]
  obtain ⟨t,ht⟩:∃ t,HT days 100=some (t,()):=by
   unfold HT
   rw [aH (by decide)]
   by_cases h:Int.tmod days 100<0
   ·rw [az h];exact ⟨_,rfl⟩
   ·rw [ay h];exact ⟨_,rfl⟩
  rw [ht,Option.bind_some]
  dsimp only
  generalize (zk v).1.2.2.2.2=m
  rw [Co,Option.bind_some]
  dsimp only
  rw [show (if 200<([(v.1,v.2.2.1,m,t,0,0)]:List aY).length then (2:Int) else dP (yt [(v.1,v.2.2.1,m,t,0,0)]) 0 [(v.1,v.2.2.1,m,t,0,0)])=iL [(v.1,v.2.2.1,m,t,0,0)] from rfl]
  by_cases hd:iL [(v.1,v.2.2.1,m,t,0,0)]=0
  ·have hmon:jc m:=by
    have h1:=hd
    unfold iL at h1
    rw [if_neg (by simp)] at h1
    have h2:yt [(v.1,v.2.2.1,m,t,0,0)] 0 (v.1,v.2.2.1,m,t,0,0)=0:=qj h1 0 _ rfl
    unfold yt at h2
    dsimp only at h2
    split at h2
    ·cases h2
    split at h2
    ·cases h2
    split at h2
    ·cases h2
    split at h2
    ·cases h2
    split at h2
    ·cases h2
    rename_i h3
    simpa using h3
   rw [show (iL [(v.1,v.2.2.1,m,t,0,0)] != 0)=false by simpa using hd,cond_false,QZ hd hmon (Int.le_refl _),Option.bind_some]
   dsimp only
   rw [if_pos rfl,show ((0:Int) != 0)=false from rfl,cond_false,TL,Gj]
   rw [show (((([(v.1,told (bu m),(0,0),v.2.2.1)]:List gM).length:Nat):Int) != 1)=false from rfl,cond_false]
   rw [show idx ([(v.1,told (bu m),(0,0),v.2.2.1)]:List gM) 0=some (v.1,told (bu m),(0,0),v.2.2.1) from rfl,Option.bind_some]
   dsimp only
   rw [show (v.2.2.1 != v.2.2.1)=false by simp,cond_false]
   rw [show (((([(0,0)]:List ak).length:Nat):Int) != 1)=false from rfl,cond_false]
   rw [show idx ([(0,0)]:List ak) 0=some (0,0) from rfl,Option.bind_some]
   dsimp only
   rw [show ((0:Int) != 0)=false from rfl,cond_false,Option.bind_some]
   dsimp only
   rw [Bool.not_true,cond_false]
   obtain ⟨u,p⟩:=m
   dsimp only
   have hu:0<u∧u≤1000000000*10 ^ p.toNat∧p≤4:=⟨hmon.1,hmon.2.2.2,hmon.2.2.1⟩
   have hu2:u.natAbs≤1000000000000000:=(jc.dec hmon).1
   rw [au (n:=u - 1) (by omega) (by omega)]
   by_cases h1:u - 1=0
   ·rw [show (u - 1==0)=true by simpa using h1,cond_true]
   ·rw [show (u - 1==0)=false by simpa using h1,cond_false]
    obtain ⟨k1,k2⟩:=Uz hmon h1
    rw [QZ hd k1 (by omega),Option.bind_some]
    dsimp only
    rw [if_neg (by omega)]
    rfl
  ·rw [show (iL [(v.1,v.2.2.1,m,t,0,0)] != 0)=true by simpa using hd,cond_true,Gj]
   rfl
 ·have hz:(zk v).1=SL:=by
   unfold zk at h0 ⊢
   split
   ·rfl
   ·rename_i h1
    rw [if_neg h1] at h0
    cases hs:NV v with
    | inl f=>rfl
    | inr s=>rw [hs] at h0;exact absurd rfl h0
  rw [show ((zk v).2.1 != 0)=true by simpa using h0,cond_true,hz,Gj]
  rfl
end Go.Md
