/-
  Plain facts: the sheet of an invoice, by the program. No condition.
-/
import Derived.Test.YtalfglakknbjkaaGreatDoorKt
import Derived.Test.YtalfglakknbjkaaGreatDoorKn
set_option linter.all false
namespace Go.Md
open Go.Dn
theorem Fj (z:Int):jK (W z)=some (iC z,()):=CP z
theorem vZ {zs:List Int} {i:Nat} {z:Int} (h:zs[i]? =some z):aV (zs.take (i+1))=(aV (zs.take i)&&iC z):=by
 unfold aV
 rw [afM,h,List.all_append];simp
theorem EK {zs:List Int} {i:Nat} {z:Int} (h:zs[i]? =some z) (hz:iC z=false):aV zs=false:=by
 unfold aV
 rw [List.all_eq_false]
 exact ⟨z,List.mem_of_getElem? h,by simp [hz]⟩
theorem contains_eq (zs:List Int) (hl:zs.length≤1000):iU (zs.map W) ()=some (!aV zs,()):=by
 unfold iU ou
 have loop:∀ f,zs.length<f→(aV zs=true∧iter f ((zs.map W,(),(zs.length:Int),(0:Int),()):fZ) gf=some (Sum.inr ()))∨
  (aV zs=false∧∃ j:Nat,iter f ((zs.map W,(),(zs.length:Int),(0:Int),()):fZ) gf=some (Sum.inl ((j:Int),()))):=by
  intro f hf
  refine bn (Inv:=fun i X=>X=(zs.map W,(),(zs.length:Int),(i:Int),())∧aV (zs.take i)=true) zs.length (fun r=>(aV zs=true∧r=some (Sum.inr ()))∨(aV zs=false∧∃ j:Nat,r=some (Sum.inl ((j:Int),())))) ?_ ?_ f 0 _ ⟨rfl,rfl⟩ (by omega) (by omega)
  ·rintro i _ again hi ⟨rfl,hal⟩ ih
   unfold gf
   dsimp only
   have hz:zs[i]? =some zs[i]:=aH hi
   generalize zs[i]=z at hz
   rw [aE (by omega),bh,List.getElem?_map,hz,agw,Option.bind_some]
   unfold um
   rw [Fj,Option.bind_some,Option.bind_some]
   dsimp only
   cases h:iC z with
   | true=>
    rw [Bool.not_true,cond_false,aA (by omega) (by omega)]
    exact ih _ ⟨rfl,by rw [vZ hz,hal,h];rfl⟩
   | false=>exact .inr ⟨EK hz h,i,rfl⟩
  ·rintro _ again ⟨rfl,hal⟩
   unfold gf
   dsimp only
   rw [afP (af0 _)] at hal
   rw [aF (by omega)]
   exact .inl ⟨hal,rfl⟩
 rw [afe]
 rcases loop (zs.length+(Int.natAbs ((zs.length:Int))+(Int.natAbs (0:Int)+2))) (by omega) with ⟨h,e⟩ | ⟨h,j,e⟩
 ·rw [e,aG,Option.bind_some,h];rfl
 ·rw [e,eV,Option.bind_some,h]
  dsimp only
  rw [agE (show (j:Int)≥0 by omega)];rfl
theorem NW (zs:List Int) (hl:zs.length≤1000):bU (zs.map W) ()=some (!aV zs,()):=by
 unfold bU mO
 have loop:∀ f,zs.length<f→(aV zs=true∧iter f ((zs.map W,(),(zs.length:Int),(0:Int),()):fh) fo=some (Sum.inr ()))∨
  (aV zs=false∧∃ j:Nat,iter f ((zs.map W,(),(zs.length:Int),(0:Int),()):fh) fo=some (Sum.inl ((j:Int),()))):=by
  intro f hf
  refine bn (Inv:=fun i X=>X=(zs.map W,(),(zs.length:Int),(i:Int),())∧aV (zs.take i)=true) zs.length (fun r=>(aV zs=true∧r=some (Sum.inr ()))∨(aV zs=false∧∃ j:Nat,r=some (Sum.inl ((j:Int),())))) ?_ ?_ f 0 _ ⟨rfl,rfl⟩ (by omega) (by omega)
  ·rintro i _ again hi ⟨rfl,hal⟩ ih
   unfold fo
   dsimp only
   have hz:zs[i]? =some zs[i]:=aH hi
   generalize zs[i]=z at hz
   rw [aE (by omega),bh,List.getElem?_map,hz,agw,Option.bind_some]
   unfold wR
   rw [Fj,Option.bind_some,Option.bind_some]
   dsimp only
   cases h:iC z with
   | true=>
    rw [Bool.not_true,cond_false,aA (by omega) (by omega)]
    exact ih _ ⟨rfl,by rw [vZ hz,hal,h];rfl⟩
   | false=>exact .inr ⟨EK hz h,i,rfl⟩
  ·rintro _ again ⟨rfl,hal⟩
   unfold fo
   dsimp only
   rw [afP (af0 _)] at hal
   rw [aF (by omega)]
   exact .inl ⟨hal,rfl⟩
 rw [afe]
 rcases loop (zs.length+(Int.natAbs ((zs.length:Int))+(Int.natAbs (0:Int)+2))) (by omega) with ⟨h,e⟩ | ⟨h,j,e⟩
 ·rw [e,aG,Option.bind_some,h];rfl
 ·rw [e,eV,Option.bind_some,h]
  dsimp only
  rw [agE (show (j:Int)≥0 by omega)];rfl
theorem Wa (zs:List Int) (hl:zs.length≤1000):gY (zs.map W) ()=some (!aV zs,()):=by
 unfold gY mW
 have loop:∀ f,zs.length<f→(aV zs=true∧iter f ((zs.map W,(),(zs.length:Int),(0:Int),()):eZ) fm=some (Sum.inr ()))∨
  (aV zs=false∧∃ j:Nat,iter f ((zs.map W,(),(zs.length:Int),(0:Int),()):eZ) fm=some (Sum.inl ((j:Int),()))):=by
  intro f hf
  refine bn (Inv:=fun i X=>X=(zs.map W,(),(zs.length:Int),(i:Int),())∧aV (zs.take i)=true) zs.length (fun r=>(aV zs=true∧r=some (Sum.inr ()))∨(aV zs=false∧∃ j:Nat,r=some (Sum.inl ((j:Int),())))) ?_ ?_ f 0 _ ⟨rfl,rfl⟩ (by omega) (by omega)
  ·rintro i _ again hi ⟨rfl,hal⟩ ih
   unfold fm
   dsimp only
   have hz:zs[i]? =some zs[i]:=aH hi
   generalize zs[i]=z at hz
   rw [aE (by omega),bh,List.getElem?_map,hz,agw,Option.bind_some]
   unfold AR
   rw [Fj,Option.bind_some,Option.bind_some]
   dsimp only
   cases h:iC z with
   | true=>
    rw [Bool.not_true,cond_false,aA (by omega) (by omega)]
    exact ih _ ⟨rfl,by rw [vZ hz,hal,h];rfl⟩
   | false=>exact .inr ⟨EK hz h,i,rfl⟩
  ·rintro _ again ⟨rfl,hal⟩
   unfold fm
   dsimp only
   rw [afP (af0 _)] at hal
   rw [aF (by omega)]
   exact .inl ⟨hal,rfl⟩
 rw [afe]
 rcases loop (zs.length+(Int.natAbs ((zs.length:Int))+(Int.natAbs (0:Int)+2))) (by omega) with ⟨h,e⟩ | ⟨h,j,e⟩
 ·rw [e,aG,Option.bind_some,h];rfl
 ·rw [e,eV,Option.bind_some,h]
  dsimp only
  rw [agE (show (j:Int)≥0 by omega)];rfl
theorem Wi (zs:List Int) (hl:zs.length≤1000):gX (zs.map W) ()=some (!aV zs,()):=by
 unfold gX mS
 have loop:∀ f,zs.length<f→(aV zs=true∧iter f ((zs.map W,(),(zs.length:Int),(0:Int),()):fj) eY=some (Sum.inr ()))∨
  (aV zs=false∧∃ j:Nat,iter f ((zs.map W,(),(zs.length:Int),(0:Int),()):fj) eY=some (Sum.inl ((j:Int),()))):=by
  intro f hf
  refine bn (Inv:=fun i X=>X=(zs.map W,(),(zs.length:Int),(i:Int),())∧aV (zs.take i)=true) zs.length (fun r=>(aV zs=true∧r=some (Sum.inr ()))∨(aV zs=false∧∃ j:Nat,r=some (Sum.inl ((j:Int),())))) ?_ ?_ f 0 _ ⟨rfl,rfl⟩ (by omega) (by omega)
  ·rintro i _ again hi ⟨rfl,hal⟩ ih
   unfold eY
   dsimp only
   have hz:zs[i]? =some zs[i]:=aH hi
   generalize zs[i]=z at hz
   rw [aE (by omega),bh,List.getElem?_map,hz,agw,Option.bind_some]
   unfold vN
   rw [Fj,Option.bind_some,Option.bind_some]
   dsimp only
   cases h:iC z with
   | true=>
    rw [Bool.not_true,cond_false,aA (by omega) (by omega)]
    exact ih _ ⟨rfl,by rw [vZ hz,hal,h];rfl⟩
   | false=>exact .inr ⟨EK hz h,i,rfl⟩
  ·rintro _ again ⟨rfl,hal⟩
   unfold eY
   dsimp only
   rw [afP (af0 _)] at hal
   rw [aF (by omega)]
   exact .inl ⟨hal,rfl⟩
 rw [afe]
 rcases loop (zs.length+(Int.natAbs ((zs.length:Int))+(Int.natAbs (0:Int)+2))) (by omega) with ⟨h,e⟩ | ⟨h,j,e⟩
 ·rw [e,aG,Option.bind_some,h];rfl
 ·rw [e,eV,Option.bind_some,h]
  dsimp only
  rw [agE (show (j:Int)≥0 by omega)];rfl
theorem U5 (l:List aa) (hl:l.length≤1000):nk l=some (l,()):=by
 unfold nk
 have hc:(decide ((0+l.length)*32≤140737488355328)&&decide (0+l.length≤maxLen))=true:=by
  simp only [ad5,decide_eq_true_eq];rw [Vl];omega
 rw [aJ hc]
 cases l with
 | nil=>exact abd _
 | cons x r=>rfl
def shW (p:Nat×Int):aO:=((p.1:Int),W p.2)
def bN (n:Nat) (fl:List Nat):List Bool:=(List.range n).map fun k=>fl.contains k
theorem rV (n:Nat) (fl:List Nat):(bN n fl).length=n:=by simp [bN]
theorem W8 (n:Nat):bN n []=List.replicate n false:=by
 unfold bN
 apply aeW
 intro i
 by_cases hi:i<n
 ·rw [List.getElem?_map,ae4 hi,ae5,if_pos hi];rfl
 ·rw [ae3 (by simp;omega),ae3 (by simp;omega)]
theorem DT {n k:Nat} (fl:List Nat):(bN n fl).set k true=bN n (fl++[k]):=by
 apply aeW
 intro i
 by_cases hi:i<n
 ·have e:∀ f,(bN n f)[i]? =some (f.contains i):=fun f=>by unfold bN;rw [List.getElem?_map,ae4 hi];rfl
  rw [e]
  by_cases h:k=i
  ·subst h
   rw [ae8 (by rw [rV];exact hi)];simp
  ·rw [ae7 h,e]
   simp [show ¬ i=k from fun x=>h x.symm]
 ·rw [ae3 (by rw [afj,rV];omega),ae3 (by rw [rV];omega)]
theorem AW {n k:Nat} (fl:List Nat) (h:k<n):(bN n fl)[k]? =some (fl.contains k):=by
 unfold bN;rw [List.getElem?_map,ae4 h];rfl
theorem Zn (n:Nat):(az n []).map W=List.replicate n (false,[]):=by
 apply aeW
 intro i
 by_cases hi:i<n
 ·rw [List.getElem?_map,fW _ hi,ae5,if_pos hi];rfl
 ·rw [ae3 (by rw [afe,cg];omega),ae3 (by simp;omega)]
def Bx (v:ah) (nets lines bases:List Int) (sh:Br) (am:List Int) (has:List Bool) (tx:List Int):ah×(List aa)×(List aa)×(List aa)×(List aO)×(List aa)×(List Bool)×(List aa)×Unit:=
 (v,nets.map W,lines.map W,bases.map W,sh.map shW,am.map W,has,tx.map W,())
theorem Gk (v:ah):∀ (a b:List au),cz v (a++b)=match cz v a with | some l=>(cz v b).map (l++ ·) | none=>none
 | [],b=>by simp [cz]
 | x::a,b=>by
  simp only [aeN,cz]
  cases A1 v x with
  | none=>rfl
  | some n=>
   dsimp only
   rw [Gk v a b]
   cases cz v a with
   | none=>rfl
   | some l=>cases cz v b<;>rfl
def M7 (v:ah) (x:au):Nat:=(cn (·.1) x.2.2.2.2.2.2.2.2 (ai v)).getD 0
theorem RQ {v:ah} {l:List au} {i:Nat} {x:au} (hx:l[i]? =some x) {b:Br} (h:cz v (l.take i)=some b):
 cz v (l.take (i+1))=(A1 v x).map fun n=>b++[(M7 v x,n)]:=by
 rw [afM,hx,Gk,h]
 simp only [Option.toList,cz]
 cases A1 v x<;>rfl
theorem Rv {v:ah} {l:List au} {i:Nat} (h:cz v (l.take i)=none):cz v l=none:=by
 have:=Gk v (l.take i) (l.drop i)
 rw [afN,h] at this
 exact this
theorem oc:MU=1000000000000000:=rfl
structure iX (n:Nat) (b:Br):Prop where
 ix:∀ p∈b,p.1<n
 am:∀ p∈b,(p.2.natAbs:Int)≤MU
theorem aa5 {n:Nat} {b:Br} (h:iX n b) (k:Nat):(atB b k).natAbs≤b.length*1000000000000000:=by
 have am:=h.am
 have hMU:=oc
 clear h
 induction b with
 | nil=>simp [atB]
 | cons p b ih=>
  have h1:=ih fun q hq=>am q (afr _ hq)
  have h2:=am p afs
  simp only [atB,afd,afS,agh]
  split<;>omega
theorem YA {n:Nat} {b:Br} (h:iX n b) (hl:b.length≤2000) (k:Nat):Le 19 (atB b k):=by
 have h1:=aa5 h k
 have h2:b.length*1000000000000000≤2000*1000000000000000:=age _ hl
 exact Le.int (by omega) (by omega)
theorem Ht {z:Int} (h:(z.natAbs:Int)≤MU):Le 19 z:=by
 have:=oc
 exact Le.int (by omega) (by omega)
theorem XC {v:ah} (hv:lf v) (f:Nat) (hf:(bu v).length<f) (b0:List aa) (a0 t0:List aa):
 (∃ lb,cz v (bu v)=some lb∧iX (ai v).length lb∧lb.length=(bu v).length∧iter f ((bu v,((bu v).length:Int),(0:Int),v.1,v.2.1,v.2.2.1,v.2.2.2.1,v.2.2.2.2.1,v.2.2.2.2.2.1,v.2.2.2.2.2.2.1,v.2.2.2.2.2.2.2.1,v.2.2.2.2.2.2.2.2,([]:List aa),([]:List aO),List.replicate (Int.toNat ((ai v).length:Int)) ((false,[]):aa),List.replicate (Int.toNat ((ai v).length:Int)) false,b0,a0,t0,()):iQ) kI=some (Sum.inr (v.1,v.2.1,v.2.2.1,v.2.2.2.1,v.2.2.2.2.1,v.2.2.2.2.2.1,v.2.2.2.2.2.2.1,v.2.2.2.2.2.2.2.1,v.2.2.2.2.2.2.2.2,(lb.map (·.2)).map W,lb.map shW,(az (ai v).length lb).map W,bN (ai v).length (lb.map (·.1)),b0,a0,t0,())))∨
 (cz v (bu v)=none∧∃ b,iter f ((bu v,((bu v).length:Int),(0:Int),v.1,v.2.1,v.2.2.1,v.2.2.2.1,v.2.2.2.2.1,v.2.2.2.2.2.1,v.2.2.2.2.2.2.1,v.2.2.2.2.2.2.2.1,v.2.2.2.2.2.2.2.2,([]:List aa),([]:List aO),List.replicate (Int.toNat ((ai v).length:Int)) ((false,[]):aa),List.replicate (Int.toNat ((ai v).length:Int)) false,b0,a0,t0,()):iQ) kI=some (Sum.inl (1,b,()))):=by
 have hrn:0<(ai v).length∧(ai v).length≤20:=hv.rn
 have hln:0<(bu v).length∧(bu v).length≤500:=hv.ln
 refine bn (Inv:=fun i X=>∃ lb,cz v ((bu v).take i)=some lb∧iX (ai v).length lb∧lb.length=i∧X=((bu v,((bu v).length:Int),(i:Int),v.1,v.2.1,v.2.2.1,v.2.2.2.1,v.2.2.2.2.1,v.2.2.2.2.2.1,v.2.2.2.2.2.2.1,v.2.2.2.2.2.2.2.1,v.2.2.2.2.2.2.2.2,(lb.map (·.2)).map W,lb.map shW,(az (ai v).length lb).map W,bN (ai v).length (lb.map (·.1)),b0,a0,t0,()):iQ)) (bu v).length
  (fun r=>(∃ lb,cz v (bu v)=some lb∧iX (ai v).length lb∧lb.length=(bu v).length∧r=some (Sum.inr (v.1,v.2.1,v.2.2.1,v.2.2.2.1,v.2.2.2.2.1,v.2.2.2.2.2.1,v.2.2.2.2.2.2.1,v.2.2.2.2.2.2.2.1,v.2.2.2.2.2.2.2.2,(lb.map (·.2)).map W,lb.map shW,(az (ai v).length lb).map W,bN (ai v).length (lb.map (·.1)),b0,a0,t0,())))∨(cz v (bu v)=none∧∃ b,r=some (Sum.inl (1,b,())))) ?_ ?_ f 0 _ ⟨[],rfl,⟨by simp,by simp⟩,rfl, ?_⟩ (by omega) (by omega)
 ·rintro i _ again hi ⟨lb,h1,h2,h3,rfl⟩ ih
  unfold kI
  dsimp only
  have hx:(bu v)[i]? =some (bu v)[i]:=aH hi
  have hxm:=afb hi
  generalize (bu v)[i]=x at hx hxm
  have hxo:=hv.lines x hxm
  have hstep:=RQ hx h1
  rw [aE (by omega),bh,hx,Option.bind_some]
  rw [show (v.1,v.2.1,v.2.2.1,v.2.2.2.1,v.2.2.2.2.1,v.2.2.2.2.2.1,v.2.2.2.2.2.2.1,v.2.2.2.2.2.2.2.1,v.2.2.2.2.2.2.2.2)=v from rfl,YT hv hxo,Option.bind_some]
  dsimp only
  cases hn:A1 v x with
  | none=>
   rw [hn] at hstep
   exact .inr ⟨Rv hstep,_,rfl⟩
  | some d=>
   rw [hn] at hstep
   obtain ⟨hd1,hd2⟩:=OJ hn
   rw [agu,Bool.not_true,cond_false, ← hd1]
   obtain ⟨k,hk1,hk2⟩:=DU (ai v) x.2.2.2.2.2.2.2.2 (by omega) hv.asc
   obtain ⟨k',hk'⟩:=agt.1 hxo.rate
   obtain rfl:=hk2 k' hk'
   obtain ⟨rt,hrt,_⟩:=jG hk'
   have hkl:k<(ai v).length:=(List.getElem?_eq_some_iff.1 hrt).1
   have hrk:M7 v x=k:=by unfold M7;rw [hk'];rfl
   rw [hk1,Option.bind_some]
   dsimp only
   have hcm:(bN (ai v).length (lb.map (·.1)))[k]? =some ((lb.map (·.1)).contains k):=AW _ hkl
   have hbm:((az (ai v).length lb).map W)[k]? =some (W (atB lb k)):=by rw [List.getElem?_map,fW _ hkl];rfl
   have hck:(decide (0≤(k:Int))&&decide ((k:Int)<(((az (ai v).length lb).map W).length:Int)))=true:=by
    rw [afe,cg];simp only [ad5,decide_eq_true_eq];omega
   rw [aJ (fY (by simp;omega) (by simp;omega)),aJ hck,aeF,hbm,Option.bind_some,dP _ _ ((YA h2 (by omega) k).w (by omega)) ((Ht hd2).w (by omega)),Option.bind_some,aJ hck,Option.bind_some,aJ (fY (by simp;omega) (by simp;omega)),aJ (by rw [rV];simp only [ad5,decide_eq_true_eq];omega),hcm,Option.bind_some,aA (by omega) (by omega)]
   refine ih _ ⟨lb++[(k,d)],by rw [hstep,hrk];rfl,⟨?_, ?_⟩,by simp [h3], ?_⟩
   ·intro p hp
    rcases afp.1 hp with hp | hp
    ·exact h2.ix p hp
    ·rw [afB.1 hp];exact hkl
   ·intro p hp
    rcases afp.1 hp with hp | hp
    ·exact h2.am p hp
    ·rw [afB.1 hp];exact hd2
   ·dsimp only
    rw [← List.map_set,KS,DT]
    simp only [afl,afn,afo,shW]
    rfl
 ·rintro _ again ⟨lb,h1,h2,h3,rfl⟩
  unfold kI
  dsimp only
  rw [aF (by omega)]
  rw [afP (af0 _)] at h1
  exact .inl ⟨lb,h1,h2,h3,rfl⟩
 ·simp only [afo,W8,Zn,aeF]
  rfl
theorem Tg {v:ah} (hv:lf v):
 (∃ lb,cz v (bu v)=some lb∧iX (ai v).length lb∧lb.length=(bu v).length∧aV (az (ai v).length lb)=true∧nL (v,[],[],[],[],[],[],[],())=some (0,Bx v (lb.map (·.2)) (az (ai v).length lb) (az (ai v).length lb) lb [] (bN (ai v).length (lb.map (·.1))) [],()))∨
 ((cz v (bu v)=none∨∃ lb,cz v (bu v)=some lb∧aV (az (ai v).length lb)=false)∧∃ b,nL (v,[],[],[],[],[],[],[],())=some (1,b,())):=by
 have hrn:0<(ai v).length∧(ai v).length≤20:=hv.rn
 have hrn':=hv.rn
 unfold nL
 dsimp only
 rw [aJ (by simp only [ad5,decide_eq_true_eq];omega),aJ (by simp only [ad5,decide_eq_true_eq];omega)]
 rcases XC hv ((bu v).length+(Int.natAbs (((bu v).length:Int))+(Int.natAbs (0:Int)+(v.1.length+(v.2.1.length+(v.2.2.1.natAbs+(v.2.2.2.1.natAbs+(v.2.2.2.2.1.natAbs+(v.2.2.2.2.2.2.1.length+(v.2.2.2.2.2.2.2.1.length+(v.2.2.2.2.2.2.2.2.length+(List.length ([]:List aa)+(List.length ([]:List aO)+(List.length (List.replicate (Int.toNat ((ai v).length:Int)) ((false,[]):aa))+(List.length (List.replicate (Int.toNat ((ai v).length:Int)) false)+(List.length ([]:List aa)+(List.length ([]:List aa)+(List.length ([]:List aa)+2)))))))))))))))))) (by omega) [] [] [] with ⟨lb,h1,h2,h3,e⟩ | ⟨h1,b,e⟩
 ·rw [e,aG]
  dsimp only
  have hbl:=cg (ai v).length lb
  rw [contains_eq _ (by rw [hbl];omega),Option.bind_some]
  dsimp only
  cases ha:aV (az (ai v).length lb) with
  | true=>
   rw [Bool.not_true,cond_false,U5 _ (by rw [afe,hbl];omega),Option.bind_some]
   exact .inl ⟨lb,h1,h2,h3,ha,rfl⟩
  | false=>exact .inr ⟨.inr ⟨lb,h1,ha⟩,_,rfl⟩
 ·rw [e,eV]
  exact .inr ⟨.inl h1,b,rfl⟩
end Go.Md
namespace Go.Md
open Go.Dn
def Z6 (v5:((List Int)×Bool×Bool×(List Int)×(List UInt8)×(List UInt8)×Int×Int×Int×Bool×(List aD)×(List au)×(List av)×(List aa)×(List aa)×(List aa)×(List aO)×(List aa)×(List Bool)×(List aa)×Unit)):Option (Int×(ah×(List aa)×(List aa)×(List aa)×(List aO)×(List aa)×(List Bool)×(List aa)×Unit)×Unit):=
 bif !v5.2.1 then
  Option.bind (fV ((v5.2.2.2.2.1,v5.2.2.2.2.2.1,v5.2.2.2.2.2.2.1,v5.2.2.2.2.2.2.2.1,v5.2.2.2.2.2.2.2.2.1,v5.2.2.2.2.2.2.2.2.2.1,v5.2.2.2.2.2.2.2.2.2.2.1,v5.2.2.2.2.2.2.2.2.2.2.2.1,v5.2.2.2.2.2.2.2.2.2.2.2.2.1),v5.2.2.2.2.2.2.2.2.2.2.2.2.2.2.1,v5.2.2.2.2.2.2.2.2.2.2.2.2.2.1,v5.2.2.2.2.2.2.2.2.2.2.2.2.2.2.2.1,v5.2.2.2.2.2.2.2.2.2.2.2.2.2.2.2.2.1,v5.2.2.2.2.2.2.2.2.2.2.2.2.2.2.2.2.2.1,v5.2.2.2.2.2.2.2.2.2.2.2.2.2.2.2.2.2.2.1,v5.2.2.2.2.2.2.2.2.2.2.2.2.2.2.2.2.2.2.2.1,()) 0 (v5.2.2.1,v5.2.2.2.1)) fun r6=>
  chk (decide (0≤(0:Int))&&decide ((0:Int)<(r6.1.2.2.2.2.2.2.1.length:Int))) <|
  Option.bind (r6.1.2.2.2.2.2.2.1[0]?) fun y7=>
  bif y7 then
   chk (decide (0≤(0:Int))&&decide ((0:Int)<(r6.1.2.2.2.2.2.2.1.length:Int))) <|
   Option.bind (r6.1.2.2.2.2.2.2.1[0]?) fun _=>
   some (0,(r6.1.1,r6.1.2.1,r6.1.2.2.1,r6.1.2.2.2.1,r6.1.2.2.2.2.1,r6.1.2.2.2.2.2.1,List.set r6.1.2.2.2.2.2.2.1 0 true,r6.1.2.2.2.2.2.2.2.1,()),())
  else
   Option.bind (aM (v5.2.2.1,v5.2.2.2.1)) fun r9=>
   chk (decide (0≤(0:Int))&&decide ((0:Int)<(r6.1.2.2.2.2.2.2.1.length:Int))) <|
   Option.bind (r6.1.2.2.2.2.2.2.1[0]?) fun _=>
   some (0,(r6.1.1,r6.1.2.1,r6.1.2.2.1,r6.1.2.2.2.1,r6.1.2.2.2.2.1,r6.1.2.2.2.2.2.1,List.set r6.1.2.2.2.2.2.2.1 0 (r9.1 != 0),r6.1.2.2.2.2.2.2.2.1,()),())
 else
  Option.bind (jm v5.1 ()) fun r11=>
  bif r11.1 then
   some (2,((v5.2.2.2.2.1,v5.2.2.2.2.2.1,v5.2.2.2.2.2.2.1,v5.2.2.2.2.2.2.2.1,v5.2.2.2.2.2.2.2.2.1,v5.2.2.2.2.2.2.2.2.2.1,v5.2.2.2.2.2.2.2.2.2.2.1,v5.2.2.2.2.2.2.2.2.2.2.2.1,v5.2.2.2.2.2.2.2.2.2.2.2.2.1),v5.2.2.2.2.2.2.2.2.2.2.2.2.2.2.1,v5.2.2.2.2.2.2.2.2.2.2.2.2.2.1,v5.2.2.2.2.2.2.2.2.2.2.2.2.2.2.2.1,v5.2.2.2.2.2.2.2.2.2.2.2.2.2.2.2.2.1,v5.2.2.2.2.2.2.2.2.2.2.2.2.2.2.2.2.2.1,v5.2.2.2.2.2.2.2.2.2.2.2.2.2.2.2.2.2.2.1,v5.2.2.2.2.2.2.2.2.2.2.2.2.2.2.2.2.2.2.2.1,()),())
  else
   Option.bind (r0 (v5.2.2.1,v5.2.2.2.1) v5.2.2.2.2.2.2.2.1) fun r12=>
   Option.bind (u7 r12.1 v5.1) fun r13=>
   bif r13.2.1 != 0 then
    some (r13.2.1,((v5.2.2.2.2.1,v5.2.2.2.2.2.1,v5.2.2.2.2.2.2.1,v5.2.2.2.2.2.2.2.1,v5.2.2.2.2.2.2.2.2.1,v5.2.2.2.2.2.2.2.2.2.1,v5.2.2.2.2.2.2.2.2.2.2.1,v5.2.2.2.2.2.2.2.2.2.2.2.1,v5.2.2.2.2.2.2.2.2.2.2.2.2.1),v5.2.2.2.2.2.2.2.2.2.2.2.2.2.2.1,v5.2.2.2.2.2.2.2.2.2.2.2.2.2.1,v5.2.2.2.2.2.2.2.2.2.2.2.2.2.2.2.1,v5.2.2.2.2.2.2.2.2.2.2.2.2.2.2.2.2.1,v5.2.2.2.2.2.2.2.2.2.2.2.2.2.2.2.2.2.1,v5.2.2.2.2.2.2.2.2.2.2.2.2.2.2.2.2.2.2.1,v5.2.2.2.2.2.2.2.2.2.2.2.2.2.2.2.2.2.2.2.1,()),())
   else
    aP (β:=(Int×(ah×(List aa)×(List aa)×(List aa)×(List aO)×(List aa)×(List Bool)×(List aa)×Unit)×Unit)) (γ:=((List UInt8)×(List UInt8)×Int×Int×Int×Bool×(List aD)×(List au)×(List av)×(List aa)×(List aa)×(List aa)×(List aO)×(List aa)×(List Bool)×(List aa)×Unit)) (
     iter (X:=iP) (β:=oq) (r13.1.length+(Int.natAbs ((r13.1.length:Int))+(Int.natAbs (0:Int)+(v5.2.2.2.2.1.length+(v5.2.2.2.2.2.1.length+(v5.2.2.2.2.2.2.1.natAbs+(v5.2.2.2.2.2.2.2.1.natAbs+(v5.2.2.2.2.2.2.2.2.1.natAbs+(v5.2.2.2.2.2.2.2.2.2.2.1.length+(v5.2.2.2.2.2.2.2.2.2.2.2.1.length+(v5.2.2.2.2.2.2.2.2.2.2.2.2.1.length+(v5.2.2.2.2.2.2.2.2.2.2.2.2.2.2.1.length+(v5.2.2.2.2.2.2.2.2.2.2.2.2.2.1.length+(v5.2.2.2.2.2.2.2.2.2.2.2.2.2.2.2.1.length+(v5.2.2.2.2.2.2.2.2.2.2.2.2.2.2.2.2.1.length+(v5.2.2.2.2.2.2.2.2.2.2.2.2.2.2.2.2.2.1.length+(v5.2.2.2.2.2.2.2.2.2.2.2.2.2.2.2.2.2.2.1.length+(v5.2.2.2.2.2.2.2.2.2.2.2.2.2.2.2.2.2.2.2.1.length+2)))))))))))))))))) (r13.1,(r13.1.length:Int),0,v5.2.2.2.2.1,v5.2.2.2.2.2.1,v5.2.2.2.2.2.2.1,v5.2.2.2.2.2.2.2.1,v5.2.2.2.2.2.2.2.2.1,v5.2.2.2.2.2.2.2.2.2.1,v5.2.2.2.2.2.2.2.2.2.2.1,v5.2.2.2.2.2.2.2.2.2.2.2.1,v5.2.2.2.2.2.2.2.2.2.2.2.2.1,v5.2.2.2.2.2.2.2.2.2.2.2.2.2.2.1,v5.2.2.2.2.2.2.2.2.2.2.2.2.2.1,v5.2.2.2.2.2.2.2.2.2.2.2.2.2.2.2.1,v5.2.2.2.2.2.2.2.2.2.2.2.2.2.2.2.2.1,v5.2.2.2.2.2.2.2.2.2.2.2.2.2.2.2.2.2.1,v5.2.2.2.2.2.2.2.2.2.2.2.2.2.2.2.2.2.2.1,v5.2.2.2.2.2.2.2.2.2.2.2.2.2.2.2.2.2.2.2.1,()) (kP)) fun v19=>
    some (0,((v19.1,v19.2.1,v19.2.2.1,v19.2.2.2.1,v19.2.2.2.2.1,v19.2.2.2.2.2.1,v19.2.2.2.2.2.2.1,v19.2.2.2.2.2.2.2.1,v19.2.2.2.2.2.2.2.2.1),v19.2.2.2.2.2.2.2.2.2.1,v19.2.2.2.2.2.2.2.2.2.2.1,v19.2.2.2.2.2.2.2.2.2.2.2.1,v19.2.2.2.2.2.2.2.2.2.2.2.2.1,v19.2.2.2.2.2.2.2.2.2.2.2.2.2.1,v19.2.2.2.2.2.2.2.2.2.2.2.2.2.2.1,v19.2.2.2.2.2.2.2.2.2.2.2.2.2.2.2.1,()),())
def VM (v8:(Int×Bool×Bool×Int×Int×(List UInt8)×Bool×(List Int)×(List UInt8)×(List UInt8)×Int×Int×Int×Bool×(List aD)×(List au)×(List av)×(List aa)×(List aa)×(List aa)×(List aO)×(List aa)×(List Bool)×(List aa)×Unit)):Option (Int×(ah×(List aa)×(List aa)×(List aa)×(List aO)×(List aa)×(List Bool)×(List aa)×Unit)×Unit):=
 Option.bind (qS (v8.2.2.2.1,v8.2.2.2.2.1) (if v8.2.2.2.2.1>v8.2.2.2.2.2.2.2.2.2.2.2.1 then v8.2.2.2.2.1 else v8.2.2.2.2.2.2.2.2.2.2.2.1)) fun r9=>
 aP (β:=(Int×(ah×(List aa)×(List aa)×(List aa)×(List aO)×(List aa)×(List Bool)×(List aa)×Unit)×Unit)) (γ:=(Int×Bool×Bool×(List Int)×(List UInt8)×(List UInt8)×Int×Int×Int×Bool×(List aD)×(List au)×(List av)×(List aa)×(List aa)×(List aa)×(List aO)×(List aa)×(List Bool)×(List aa)×Unit)) (
  bif v8.2.2.1 then
   Option.bind (rG (v8.2.2.2.2.2.2.2.2.1,v8.2.2.2.2.2.2.2.2.2.1,v8.2.2.2.2.2.2.2.2.2.2.1,v8.2.2.2.2.2.2.2.2.2.2.2.1,v8.2.2.2.2.2.2.2.2.2.2.2.2.1,v8.2.2.2.2.2.2.2.2.2.2.2.2.2.1,v8.2.2.2.2.2.2.2.2.2.2.2.2.2.2.1,v8.2.2.2.2.2.2.2.2.2.2.2.2.2.2.2.1,v8.2.2.2.2.2.2.2.2.2.2.2.2.2.2.2.2.1) (v8.2.2.2.2.2.2.1,v8.2.2.2.2.2.2.2.1) (v8.2.2.2.1,v8.2.2.2.2.1)) fun r10=>
   some (Sum.inr (v8.1,v8.2.1,r10.1.1,r10.1.2,v8.2.2.2.2.2.2.2.2.1,v8.2.2.2.2.2.2.2.2.2.1,v8.2.2.2.2.2.2.2.2.2.2.1,v8.2.2.2.2.2.2.2.2.2.2.2.1,v8.2.2.2.2.2.2.2.2.2.2.2.2.1,v8.2.2.2.2.2.2.2.2.2.2.2.2.2.1,v8.2.2.2.2.2.2.2.2.2.2.2.2.2.2.1,v8.2.2.2.2.2.2.2.2.2.2.2.2.2.2.2.1,v8.2.2.2.2.2.2.2.2.2.2.2.2.2.2.2.2.1,v8.2.2.2.2.2.2.2.2.2.2.2.2.2.2.2.2.2.1,v8.2.2.2.2.2.2.2.2.2.2.2.2.2.2.2.2.2.2.1,v8.2.2.2.2.2.2.2.2.2.2.2.2.2.2.2.2.2.2.2.1,v8.2.2.2.2.2.2.2.2.2.2.2.2.2.2.2.2.2.2.2.2.1,v8.2.2.2.2.2.2.2.2.2.2.2.2.2.2.2.2.2.2.2.2.2.1,v8.2.2.2.2.2.2.2.2.2.2.2.2.2.2.2.2.2.2.2.2.2.2.1,v8.2.2.2.2.2.2.2.2.2.2.2.2.2.2.2.2.2.2.2.2.2.2.2.1,()))
  else
   some (Sum.inr (v8.1,v8.2.1,r9.1.1,r9.1.2,v8.2.2.2.2.2.2.2.2.1,v8.2.2.2.2.2.2.2.2.2.1,v8.2.2.2.2.2.2.2.2.2.2.1,v8.2.2.2.2.2.2.2.2.2.2.2.1,v8.2.2.2.2.2.2.2.2.2.2.2.2.1,v8.2.2.2.2.2.2.2.2.2.2.2.2.2.1,v8.2.2.2.2.2.2.2.2.2.2.2.2.2.2.1,v8.2.2.2.2.2.2.2.2.2.2.2.2.2.2.2.1,v8.2.2.2.2.2.2.2.2.2.2.2.2.2.2.2.2.1,v8.2.2.2.2.2.2.2.2.2.2.2.2.2.2.2.2.2.1,v8.2.2.2.2.2.2.2.2.2.2.2.2.2.2.2.2.2.2.1,v8.2.2.2.2.2.2.2.2.2.2.2.2.2.2.2.2.2.2.2.1,v8.2.2.2.2.2.2.2.2.2.2.2.2.2.2.2.2.2.2.2.2.1,v8.2.2.2.2.2.2.2.2.2.2.2.2.2.2.2.2.2.2.2.2.2.1,v8.2.2.2.2.2.2.2.2.2.2.2.2.2.2.2.2.2.2.2.2.2.2.1,v8.2.2.2.2.2.2.2.2.2.2.2.2.2.2.2.2.2.2.2.2.2.2.2.1,()))) fun v11=>
 Option.bind (jK (v11.2.2.1,v11.2.2.2.1)) fun r12=>
 bif !r12.1 then
  some (1,((v11.2.2.2.2.1,v11.2.2.2.2.2.1,v11.2.2.2.2.2.2.1,v11.2.2.2.2.2.2.2.1,v11.2.2.2.2.2.2.2.2.1,v11.2.2.2.2.2.2.2.2.2.1,v11.2.2.2.2.2.2.2.2.2.2.1,v11.2.2.2.2.2.2.2.2.2.2.2.1,v11.2.2.2.2.2.2.2.2.2.2.2.2.1),v11.2.2.2.2.2.2.2.2.2.2.2.2.2.2.1,v11.2.2.2.2.2.2.2.2.2.2.2.2.2.1,v11.2.2.2.2.2.2.2.2.2.2.2.2.2.2.2.1,v11.2.2.2.2.2.2.2.2.2.2.2.2.2.2.2.2.1,v11.2.2.2.2.2.2.2.2.2.2.2.2.2.2.2.2.2.1,v11.2.2.2.2.2.2.2.2.2.2.2.2.2.2.2.2.2.2.1,v11.2.2.2.2.2.2.2.2.2.2.2.2.2.2.2.2.2.2.2.1,()),())
 else
  chk (decide (((v11.2.2.2.2.2.2.2.2.2.2.2.2.2.2.2.2.2.1.length)+1)*32≤140737488355328)&&decide ((v11.2.2.2.2.2.2.2.2.2.2.2.2.2.2.2.2.2.1.length)+1≤maxLen)) <|
  bif v11.2.1 then
   Option.bind (fV ((v11.2.2.2.2.1,v11.2.2.2.2.2.1,v11.2.2.2.2.2.2.1,v11.2.2.2.2.2.2.2.1,v11.2.2.2.2.2.2.2.2.1,v11.2.2.2.2.2.2.2.2.2.1,v11.2.2.2.2.2.2.2.2.2.2.1,v11.2.2.2.2.2.2.2.2.2.2.2.1,v11.2.2.2.2.2.2.2.2.2.2.2.2.1),v11.2.2.2.2.2.2.2.2.2.2.2.2.2.2.1,v11.2.2.2.2.2.2.2.2.2.2.2.2.2.1,v11.2.2.2.2.2.2.2.2.2.2.2.2.2.2.2.1,v11.2.2.2.2.2.2.2.2.2.2.2.2.2.2.2.2.1,v11.2.2.2.2.2.2.2.2.2.2.2.2.2.2.2.2.2.1++[(v11.2.2.1,v11.2.2.2.1)],v11.2.2.2.2.2.2.2.2.2.2.2.2.2.2.2.2.2.2.1,v11.2.2.2.2.2.2.2.2.2.2.2.2.2.2.2.2.2.2.2.1,()) v11.1 (v11.2.2.1,v11.2.2.2.1)) fun r13=>
   chk (decide (0≤v11.1)&&decide (v11.1<(r13.1.2.2.2.2.2.2.1.length:Int))) <|
   Option.bind (r13.1.2.2.2.2.2.2.1[v11.1.toNat]?) fun _=>
   Option.bind (bU r13.1.2.2.2.1 ()) fun r15=>
   bif r15.1 then
    some (1,(r13.1.1,r13.1.2.1,r13.1.2.2.1,r13.1.2.2.2.1,r13.1.2.2.2.2.1,r13.1.2.2.2.2.2.1,List.set r13.1.2.2.2.2.2.2.1 v11.1.toNat true,r13.1.2.2.2.2.2.2.2.1,()),())
   else
    some (0,(r13.1.1,r13.1.2.1,r13.1.2.2.1,r13.1.2.2.2.1,r13.1.2.2.2.2.1,r13.1.2.2.2.2.2.1,List.set r13.1.2.2.2.2.2.2.1 v11.1.toNat true,r13.1.2.2.2.2.2.2.2.1,()),())
  else
   Option.bind (hY ((v11.2.2.2.2.1,v11.2.2.2.2.2.1,v11.2.2.2.2.2.2.1,v11.2.2.2.2.2.2.2.1,v11.2.2.2.2.2.2.2.2.1,v11.2.2.2.2.2.2.2.2.2.1,v11.2.2.2.2.2.2.2.2.2.2.1,v11.2.2.2.2.2.2.2.2.2.2.2.1,v11.2.2.2.2.2.2.2.2.2.2.2.2.1),v11.2.2.2.2.2.2.2.2.2.2.2.2.2.2.1,v11.2.2.2.2.2.2.2.2.2.2.2.2.2.1,v11.2.2.2.2.2.2.2.2.2.2.2.2.2.2.2.1,v11.2.2.2.2.2.2.2.2.2.2.2.2.2.2.2.2.1,v11.2.2.2.2.2.2.2.2.2.2.2.2.2.2.2.2.2.1++[(v11.2.2.1,v11.2.2.2.1)],v11.2.2.2.2.2.2.2.2.2.2.2.2.2.2.2.2.2.2.1,v11.2.2.2.2.2.2.2.2.2.2.2.2.2.2.2.2.2.2.2.1,()) (v11.2.2.1,v11.2.2.2.1)) fun r16=>
   bif r16.1 != 0 then
    some (r16.1,(r16.2.1.1,r16.2.1.2.1,r16.2.1.2.2.1,r16.2.1.2.2.2.1,r16.2.1.2.2.2.2.1,r16.2.1.2.2.2.2.2.1,r16.2.1.2.2.2.2.2.2.1,r16.2.1.2.2.2.2.2.2.2.1,()),())
   else
    Option.bind (bU r16.2.1.2.2.2.1 ()) fun r17=>
    bif r17.1 then
     some (1,(r16.2.1.1,r16.2.1.2.1,r16.2.1.2.2.1,r16.2.1.2.2.2.1,r16.2.1.2.2.2.2.1,r16.2.1.2.2.2.2.2.1,r16.2.1.2.2.2.2.2.2.1,r16.2.1.2.2.2.2.2.2.2.1,()),())
    else
     some (0,(r16.2.1.1,r16.2.1.2.1,r16.2.1.2.2.1,r16.2.1.2.2.2.1,r16.2.1.2.2.2.2.1,r16.2.1.2.2.2.2.2.1,r16.2.1.2.2.2.2.2.2.1,r16.2.1.2.2.2.2.2.2.2.1,()),())
def E6 (v11:(Int×Bool×Bool×(List Int)×(List UInt8)×(List UInt8)×Int×Int×Int×Bool×(List aD)×(List au)×(List av)×(List aa)×(List aa)×(List aa)×(List aO)×(List aa)×(List Bool)×(List aa)×Unit)):Option (Int×(ah×(List aa)×(List aa)×(List aa)×(List aO)×(List aa)×(List Bool)×(List aa)×Unit)×Unit):=
 Option.bind (jK (v11.2.2.1,v11.2.2.2.1)) fun r12=>
 bif !r12.1 then
  some (1,((v11.2.2.2.2.1,v11.2.2.2.2.2.1,v11.2.2.2.2.2.2.1,v11.2.2.2.2.2.2.2.1,v11.2.2.2.2.2.2.2.2.1,v11.2.2.2.2.2.2.2.2.2.1,v11.2.2.2.2.2.2.2.2.2.2.1,v11.2.2.2.2.2.2.2.2.2.2.2.1,v11.2.2.2.2.2.2.2.2.2.2.2.2.1),v11.2.2.2.2.2.2.2.2.2.2.2.2.2.2.1,v11.2.2.2.2.2.2.2.2.2.2.2.2.2.1,v11.2.2.2.2.2.2.2.2.2.2.2.2.2.2.2.1,v11.2.2.2.2.2.2.2.2.2.2.2.2.2.2.2.2.1,v11.2.2.2.2.2.2.2.2.2.2.2.2.2.2.2.2.2.1,v11.2.2.2.2.2.2.2.2.2.2.2.2.2.2.2.2.2.2.1,v11.2.2.2.2.2.2.2.2.2.2.2.2.2.2.2.2.2.2.2.1,()),())
 else
  chk (decide (((v11.2.2.2.2.2.2.2.2.2.2.2.2.2.2.2.2.2.1.length)+1)*32≤140737488355328)&&decide ((v11.2.2.2.2.2.2.2.2.2.2.2.2.2.2.2.2.2.1.length)+1≤maxLen)) <|
  bif v11.2.1 then
   Option.bind (fV ((v11.2.2.2.2.1,v11.2.2.2.2.2.1,v11.2.2.2.2.2.2.1,v11.2.2.2.2.2.2.2.1,v11.2.2.2.2.2.2.2.2.1,v11.2.2.2.2.2.2.2.2.2.1,v11.2.2.2.2.2.2.2.2.2.2.1,v11.2.2.2.2.2.2.2.2.2.2.2.1,v11.2.2.2.2.2.2.2.2.2.2.2.2.1),v11.2.2.2.2.2.2.2.2.2.2.2.2.2.2.1,v11.2.2.2.2.2.2.2.2.2.2.2.2.2.1,v11.2.2.2.2.2.2.2.2.2.2.2.2.2.2.2.1,v11.2.2.2.2.2.2.2.2.2.2.2.2.2.2.2.2.1,v11.2.2.2.2.2.2.2.2.2.2.2.2.2.2.2.2.2.1++[(v11.2.2.1,v11.2.2.2.1)],v11.2.2.2.2.2.2.2.2.2.2.2.2.2.2.2.2.2.2.1,v11.2.2.2.2.2.2.2.2.2.2.2.2.2.2.2.2.2.2.2.1,()) v11.1 (v11.2.2.1,v11.2.2.2.1)) fun r13=>
   chk (decide (0≤v11.1)&&decide (v11.1<(r13.1.2.2.2.2.2.2.1.length:Int))) <|
   Option.bind (r13.1.2.2.2.2.2.2.1[v11.1.toNat]?) fun _=>
   Option.bind (bU r13.1.2.2.2.1 ()) fun r15=>
   bif r15.1 then
    some (1,(r13.1.1,r13.1.2.1,r13.1.2.2.1,r13.1.2.2.2.1,r13.1.2.2.2.2.1,r13.1.2.2.2.2.2.1,List.set r13.1.2.2.2.2.2.2.1 v11.1.toNat true,r13.1.2.2.2.2.2.2.2.1,()),())
   else
    some (0,(r13.1.1,r13.1.2.1,r13.1.2.2.1,r13.1.2.2.2.1,r13.1.2.2.2.2.1,r13.1.2.2.2.2.2.1,List.set r13.1.2.2.2.2.2.2.1 v11.1.toNat true,r13.1.2.2.2.2.2.2.2.1,()),())
  else
   Option.bind (hY ((v11.2.2.2.2.1,v11.2.2.2.2.2.1,v11.2.2.2.2.2.2.1,v11.2.2.2.2.2.2.2.1,v11.2.2.2.2.2.2.2.2.1,v11.2.2.2.2.2.2.2.2.2.1,v11.2.2.2.2.2.2.2.2.2.2.1,v11.2.2.2.2.2.2.2.2.2.2.2.1,v11.2.2.2.2.2.2.2.2.2.2.2.2.1),v11.2.2.2.2.2.2.2.2.2.2.2.2.2.2.1,v11.2.2.2.2.2.2.2.2.2.2.2.2.2.1,v11.2.2.2.2.2.2.2.2.2.2.2.2.2.2.2.1,v11.2.2.2.2.2.2.2.2.2.2.2.2.2.2.2.2.1,v11.2.2.2.2.2.2.2.2.2.2.2.2.2.2.2.2.2.1++[(v11.2.2.1,v11.2.2.2.1)],v11.2.2.2.2.2.2.2.2.2.2.2.2.2.2.2.2.2.2.1,v11.2.2.2.2.2.2.2.2.2.2.2.2.2.2.2.2.2.2.2.1,()) (v11.2.2.1,v11.2.2.2.1)) fun r16=>
   bif r16.1 != 0 then
    some (r16.1,(r16.2.1.1,r16.2.1.2.1,r16.2.1.2.2.1,r16.2.1.2.2.2.1,r16.2.1.2.2.2.2.1,r16.2.1.2.2.2.2.2.1,r16.2.1.2.2.2.2.2.2.1,r16.2.1.2.2.2.2.2.2.2.1,()),())
   else
    Option.bind (bU r16.2.1.2.2.2.1 ()) fun r17=>
    bif r17.1 then
     some (1,(r16.2.1.1,r16.2.1.2.1,r16.2.1.2.2.1,r16.2.1.2.2.2.1,r16.2.1.2.2.2.2.1,r16.2.1.2.2.2.2.2.1,r16.2.1.2.2.2.2.2.2.1,r16.2.1.2.2.2.2.2.2.2.1,()),())
    else
     some (0,(r16.2.1.1,r16.2.1.2.1,r16.2.1.2.2.1,r16.2.1.2.2.2.1,r16.2.1.2.2.2.2.1,r16.2.1.2.2.2.2.2.1,r16.2.1.2.2.2.2.2.2.1,r16.2.1.2.2.2.2.2.2.2.1,()),())
theorem Sq (z:Int) (h:z.natAbs<4294967296 ^ 99):Ac (W z)=some (W (z.natAbs:Int),()):=by
 unfold Ac
 have hl:=acI h
 rw [ki _ (W z).2 (eF _) (by omega)]
 simp only [Option.bind_some,ad8,agK]
 congr 3
 simp only [W,eI]
theorem S8 (zs:List Nat) (hl:zs.length≤1000):jm (wI zs) ()=some (zs.any fun z=>decide (1000000000<z),()):=by
 unfold jm uH
 have loop:∀ f,zs.length<f→((zs.any fun z=>decide (1000000000<z))=false∧iter f ((wI zs,(),(zs.length:Int),(0:Int),()):jr) jn=some (Sum.inr ()))∨
  ((zs.any fun z=>decide (1000000000<z))=true∧∃ j:Nat,iter f ((wI zs,(),(zs.length:Int),(0:Int),()):jr) jn=some (Sum.inl ((j:Int),()))):=by
  intro f hf
  refine bn (Inv:=fun i X=>X=(wI zs,(),(zs.length:Int),(i:Int),())∧((zs.take i).any fun z=>decide (1000000000<z))=false) zs.length (fun r=>((zs.any fun z=>decide (1000000000<z))=false∧r=some (Sum.inr ()))∨((zs.any fun z=>decide (1000000000<z))=true∧∃ j:Nat,r=some (Sum.inl ((j:Int),())))) ?_ ?_ f 0 _ ⟨rfl,rfl⟩ (by omega) (by omega)
  ·rintro i _ again hi ⟨rfl,hal⟩ ih
   unfold jn
   dsimp only
   have hz:zs[i]? =some zs[i]:=aH hi
   generalize zs[i]=z at hz
   rw [aE (by omega),bh,Lb hz,Option.bind_some]
   unfold vP
   rw [Option.bind_some]
   dsimp only
   by_cases h:(z:Int)>1000000000
   ·rw [aE h]
    refine .inr ⟨?_,i,rfl⟩
    rw [aeK]
    exact ⟨z,List.mem_of_getElem? hz,by rw [decide_eq_true_eq];omega⟩
   ·rw [aF h,aA (by omega) (by omega)]
    refine ih _ ⟨rfl, ?_⟩
    rw [afM,hz,List.any_append,hal]
    simp;omega
  ·rintro _ again ⟨rfl,hal⟩
   unfold jn
   dsimp only
   rw [afP (af0 _)] at hal
   rw [aF (by omega)]
   exact .inl ⟨hal,rfl⟩
 rw [rE]
 rcases loop (zs.length+(Int.natAbs ((zs.length:Int))+(Int.natAbs (0:Int)+2))) (by omega) with ⟨h,e⟩ | ⟨h,j,e⟩
 ·rw [e,aG,Option.bind_some,h];rfl
 ·rw [e,eV,Option.bind_some,h]
  dsimp only
  rw [agE (show (j:Int)≥0 by omega)]
theorem iX.snoc {n:Nat} {b:Br} (h:iX n b) {k:Nat} {d:Int} (hk:k<n) (hd:(d.natAbs:Int)≤MU):iX n (b++[(k,d)]):=by
 refine ⟨fun p hp=> ?_,fun p hp=> ?_⟩
 ·rcases afp.1 hp with hp | hp
  ·exact h.ix p hp
  ·rw [afB.1 hp];exact hk
 ·rcases afp.1 hp with hp | hp
  ·exact h.am p hp
  ·rw [afB.1 hp];exact hd
theorem R7 (v:ah) (nets lines:List Int) {n:Nat} (hn:n≤20) {sh:Br} (hsh:iX n sh) (hl:sh.length≤1999) (am:List Int) (has:List Bool) (tx:List Int) {k:Nat} (hk:k<n) {d:Int} (hd:(d.natAbs:Int)≤MU):
 fV (Bx v nets lines (az n sh) sh am has tx) (k:Int) (W d)=some (Bx v nets lines (az n (sh++[(k,d)])) (sh++[(k,d)]) am has tx,()):=by
 unfold fV Bx
 dsimp only
 have hbm:((az n sh).map W)[k]? =some (W (atB sh k)):=by rw [List.getElem?_map,fW _ hk];rfl
 have hck:(decide (0≤(k:Int))&&decide ((k:Int)<(((az n sh).map W).length:Int)))=true:=by
  rw [afe,cg];simp only [ad5,decide_eq_true_eq];omega
 rw [aJ hck,aeF,hbm,Option.bind_some,dP _ _ ((YA hsh (by omega) k).w (by omega)) ((Ht hd).w (by omega)),Option.bind_some,aJ hck,Option.bind_some,aJ (fY (by simp;omega) (by simp;omega))]
 dsimp only
 rw [← List.map_set,KS,afl]
 rfl
theorem Zl {v:ah} {lines:List Int} (hl:lines.length≤20) (hal:aV lines=true) (a:aa) (N L B:List aa) (S:List aO) (A:List aa) (H:List Bool) (T:List aa) (f:Nat) (hf:lines.length<f):
 iter f (([],false,lines.map W,(lines.length:Int),(0:Int),a.1,a.2,v.1,v.2.1,v.2.2.1,v.2.2.2.1,v.2.2.2.2.1,v.2.2.2.2.2.1,v.2.2.2.2.2.2.1,v.2.2.2.2.2.2.2.1,v.2.2.2.2.2.2.2.2,N,L,B,S,A,H,T,()):lM) o9=
  some (Sum.inr (wI (lines.map Int.natAbs), !(lines.all fun b=>b==0),a.1,a.2,v.1,v.2.1,v.2.2.1,v.2.2.2.1,v.2.2.2.2.1,v.2.2.2.2.2.1,v.2.2.2.2.2.2.1,v.2.2.2.2.2.2.2.1,v.2.2.2.2.2.2.2.2,N,L,B,S,A,H,T,())):=by
 refine bn (Inv:=fun i X=>X=((wI ((lines.take i).map Int.natAbs), !((lines.take i).all fun b=>b==0),lines.map W,(lines.length:Int),(i:Int),a.1,a.2,v.1,v.2.1,v.2.2.1,v.2.2.2.1,v.2.2.2.2.1,v.2.2.2.2.2.1,v.2.2.2.2.2.2.1,v.2.2.2.2.2.2.2.1,v.2.2.2.2.2.2.2.2,N,L,B,S,A,H,T,()):lM)) lines.length
  (fun r=>r=some (Sum.inr (wI (lines.map Int.natAbs), !(lines.all fun b=>b==0),a.1,a.2,v.1,v.2.1,v.2.2.1,v.2.2.2.1,v.2.2.2.2.1,v.2.2.2.2.2.1,v.2.2.2.2.2.2.1,v.2.2.2.2.2.2.2.1,v.2.2.2.2.2.2.2.2,N,L,B,S,A,H,T,()))) ?_ ?_ f 0 _ rfl (by omega) (by omega)
 ·rintro i _ again hi rfl ih
  unfold o9
  dsimp only
  have hz:lines[i]? =some lines[i]:=aH hi
  have hzm:iC lines[i]=true:=aeI.1 hal _ (afb hi)
  generalize lines[i]=z at hz hzm
  have hzb:(z.natAbs:Int)≤MU:=by unfold iC at hzm;exact agP hzm
  have hMU:=oc
  have hw:=Ht hzb
  rw [aE (by omega),bh,List.getElem?_map,hz,agw,Option.bind_some,Sq _ (hw.w (by omega)),Option.bind_some]
  dsimp only
  rw [ur _ _ (by omega) (by omega),Option.bind_some,if_pos (by omega)]
  dsimp only
  rw [aJ (fY (by rw [rE];simp;omega) (by rw [rE];simp;omega)),aA (by omega) (by omega)]
  have e1:wI ((lines.take i).map Int.natAbs)++[(z.natAbs:Int)]=wI ((lines.take (i+1)).map Int.natAbs):=by
   rw [afM,hz,afl]
   unfold wI
   rw [afl]
   rfl
  have e2:((lines.take (i+1)).all fun b=>b==0)=(((lines.take i).all fun b=>b==0)&&(z==0)):=by
   rw [afM,hz,List.all_append];simp
  have:=ih _ rfl
  rw [← e1,e2] at this
  cases hx:((lines.take i).all fun b=>b==0) with
  | false=>rw [hx] at this;exact this
  | true=>
   rw [hx,aei] at this
   rw [Bool.not_true,cond_false]
   have e3:decide ((z.natAbs:Int)>0)= !(z==0):=by
    by_cases h:z=0
    ·subst h;rfl
    ·rw [agE (by omega),show (z==0)=false by simpa using h];rfl
   rw [e3];exact this
 ·rintro _ again rfl
  unfold o9
  dsimp only
  rw [aF (by omega),afP (af0 _)]
theorem aay {v:ah} {nets lines am tx:List Int} {n:Nat} (hn:n≤20) {sh:Br} (hsh:iX n sh) (hl:sh.length≤1900) (fl:List Nat) {xs:List Int} {pl:Int} (hxl:xs.length=n) (hxs:∀ x∈xs,(x.natAbs:Int)≤MU) (f:Nat) (hf:xs.length<f):
 iter f ((xs.map (fun x=>(x,pl)),(xs.length:Int),(0:Int),v.1,v.2.1,v.2.2.1,v.2.2.2.1,v.2.2.2.2.1,v.2.2.2.2.2.1,v.2.2.2.2.2.2.1,v.2.2.2.2.2.2.2.1,v.2.2.2.2.2.2.2.2,nets.map W,lines.map W,(az n sh).map W,sh.map shW,am.map W,bN n fl,tx.map W,()):iP) kP=
  some (Sum.inr (v.1,v.2.1,v.2.2.1,v.2.2.2.1,v.2.2.2.2.1,v.2.2.2.2.2.1,v.2.2.2.2.2.2.1,v.2.2.2.2.2.2.2.1,v.2.2.2.2.2.2.2.2,nets.map W,lines.map W,(az n (sh++di 0 xs)).map W,(sh++di 0 xs).map shW,am.map W,bN n (fl++(di 0 xs).map (·.1)),tx.map W,())):=by
 have nz_snoc:∀ (l:List Int) (k:Nat) (x:Int),di k (l++[x])=di k l++(if x=0 then [] else [(k+l.length,x)]):=by
  intro l
  induction l with
  | nil=>intro k x;simp [di]
  | cons y l ih=>
   intro k x
   simp only [aeN,di,ih (k+1) x,afd]
   rw [show k+1+l.length=k+(l.length+1) by omega]
   split<;>simp
 have nz_len:∀ (l:List Int) (k:Nat),(di k l).length≤l.length:=by
  intro l
  induction l with
  | nil=>intro k;simp [di]
  | cons y l ih=>
   intro k
   have:=ih (k+1)
   simp only [di]
   split<;>simp<;>omega
 refine bn (Inv:=fun i X=>iX n (sh++di 0 (xs.take i))∧X=((xs.map (fun x=>(x,pl)),(xs.length:Int),(i:Int),v.1,v.2.1,v.2.2.1,v.2.2.2.1,v.2.2.2.2.1,v.2.2.2.2.2.1,v.2.2.2.2.2.2.1,v.2.2.2.2.2.2.2.1,v.2.2.2.2.2.2.2.2,nets.map W,lines.map W,(az n (sh++di 0 (xs.take i))).map W,(sh++di 0 (xs.take i)).map shW,am.map W,bN n (fl++(di 0 (xs.take i)).map (·.1)),tx.map W,()):iP)) xs.length
  (fun r=>r=some (Sum.inr (v.1,v.2.1,v.2.2.1,v.2.2.2.1,v.2.2.2.2.1,v.2.2.2.2.2.1,v.2.2.2.2.2.2.1,v.2.2.2.2.2.2.2.1,v.2.2.2.2.2.2.2.2,nets.map W,lines.map W,(az n (sh++di 0 xs)).map W,(sh++di 0 xs).map shW,am.map W,bN n (fl++(di 0 xs).map (·.1)),tx.map W,()))) ?_ ?_ f 0 _ ⟨by simpa [di] using hsh,by simp [di]⟩ (by omega) (by omega)
 ·rintro i _ again hi ⟨hok,rfl⟩ ih
  unfold kP
  dsimp only
  have hx:xs[i]? =some xs[i]:=aH hi
  have hxm:=hxs _ (afb hi)
  generalize xs[i]=x at hx hxm
  have hMU:=oc
  have hbl:=nz_len (xs.take i) 0
  rw [afk] at hbl
  have hsl:(sh++di 0 (xs.take i)).length≤1999:=by rw [afc];omega
  have hnext:=nz_snoc (xs.take i) 0 x
  have htk:xs.take (i+1)=xs.take i++[x]:=by rw [afM,hx];rfl
  have hlt:(xs.take i).length=i:=by rw [afk];omega
  rw [← htk,hlt,agm] at hnext
  rw [aE (by omega),bh,List.getElem?_map,hx,agw,Option.bind_some]
  dsimp only
  have hin:i<n:=by omega
  by_cases h0:x=0
  ·rw [if_pos h0,aeM] at hnext
   rw [show (x != 0)=false by simpa using h0,cond_false,aA (by omega) (by omega)]
   refine ih _ ⟨by rw [hnext];exact hok,by rw [hnext];rfl⟩
  ·rw [if_neg h0] at hnext
   have hb:=R7 v nets lines hn hok hsl am (bN n (fl++(di 0 (xs.take i)).map (·.1))) tx hin hxm
   unfold Bx at hb
   rw [show (x != 0)=true by simpa using h0,cond_true,fX _ (by omega) (by omega),Option.bind_some]
   dsimp only
   rw [show (v.1,v.2.1,v.2.2.1,v.2.2.2.1,v.2.2.2.2.1,v.2.2.2.2.2.1,v.2.2.2.2.2.2.1,v.2.2.2.2.2.2.2.1,v.2.2.2.2.2.2.2.2)=v from rfl,hb,Option.bind_some]
   dsimp only
   rw [aJ (by rw [rV];simp only [ad5,decide_eq_true_eq];omega),aeF,AW _ hin,Option.bind_some,aA (by omega) (by omega),DT]
   refine ih _ ⟨by rw [hnext, ← aeL];exact hok.snoc hin hxm, ?_⟩
   rw [hnext]
   simp only [aeL,afl,afn,afo]
   rfl
 ·rintro _ again ⟨_,rfl⟩
  unfold kP
  dsimp only
  rw [aF (by omega),afP (af0 _)]
end Go.Md
namespace Go.Md
open Go.Dn
theorem XP {way:Int} {b:Nat} (hb:0<b):rnd way 0 b=0:=by
 unfold rnd Ew
 simp only [Int.natAbs_zero,Nat.zero_div,Nat.zero_mod,Int.lt_irrefl,agF,aee,aei,Bool.false_and,Nat.lt_irrefl]
 have h1:¬ b≤2*0:=by omega
 have h2:¬ (b<2*0∨(2*0=b∧0 % 2=1)):=by omega
 simp [h1]
theorem KB:∀ {l:List Int},(l.all fun b=>b==0)=false→0<(l.map Int.natAbs).sum
 | [],h=>by simp at h
 | x::l,h=>by
  by_cases hx:x=0
  ·subst hx
   have:=KB (l:=l) (by simpa using h)
   simp only [afn,afL];omega
  ·simp only [afn,afL];omega
theorem ZS {v:ah} (hv:lf v) (k:Nat):b6 (nV v k):=by
 unfold nV
 rw [List.getD_eq_getElem?_getD]
 cases h:(ai v)[k]? with
 | none=>exact ⟨by simp,by simp,by simp⟩
 | some r=>
  have:=hv.rates r (List.mem_of_getElem? h)
  unfold inR at this
  rw [decide_eq_true_eq] at this
  exact this.1
end Go.Md
namespace Go.Md
open Go.Dn
theorem Yv {n k:Nat} {fl:List Nat} (h:fl.contains k=true):bN n (fl++[k])=bN n fl:=by
 unfold bN
 apply afm
 intro i _
 by_cases e:i=k
 ·subst e;rw [h];simp
 ·simp [e]
theorem abL {n k:Nat} {fl:List Nat} (hk:k<n) (h:fl.contains k=false):(bN n fl).set k false=bN n fl:=by
 apply aeW
 intro i
 by_cases e:k=i
 ·subst e
  rw [ae8 (by rw [rV];exact hk),AW _ hk,h]
 ·rw [ae7 e]
theorem ZB (lines:List Int):((lines.map Int.natAbs).any fun z=>decide (1000000000<z))=lines.any fun b=>decide (MW<b.natAbs):=by
 rw [List.any_map];rfl
theorem gx {d:Int}:iC d=true↔(d.natAbs:Int)≤MU:=by unfold iC;rw [decide_eq_true_eq]
theorem abk {v:ah} (hv:lf v) (nets am tx:List Int) {n:Nat} (hn0:0<n) (hn:n≤20) {lines:List Int} (hll:lines.length=n) (hal:aV lines=true) {sh:Br} (hsh:iX n sh) (hl:sh.length≤1900) (fl:List Nat) {d:Int} (hd:(d.natAbs:Int)≤MU):
 (∃ p g,ry none d lines= .inr (d,p,g)∧iX n (sh++p)∧p.length≤20∧hY (Bx v nets lines (az n sh) sh am (bN n fl) tx) (W d)=some (0,Bx v nets lines (az n (sh++p)) (sh++p) am (bN n (fl++g)) tx,()))∨
 (ry none d lines= .inl 2∧∃ b,hY (Bx v nets lines (az n sh) sh am (bN n fl) tx) (W d)=some (2,b,())):=by
 have hpl:=hv.pl
 have hMU:=oc
 have hb:hY (Bx v nets lines (az n sh) sh am (bN n fl) tx) (W d)=Z6 (wI (lines.map Int.natAbs), !(lines.all fun b=>b==0),(W d).1,(W d).2,v.1,v.2.1,v.2.2.1,v.2.2.2.1,v.2.2.2.2.1,v.2.2.2.2.2.1,v.2.2.2.2.2.2.1,v.2.2.2.2.2.2.2.1,v.2.2.2.2.2.2.2.2,lines.map W,nets.map W,(az n sh).map W,sh.map shW,am.map W,bN n fl,tx.map W,()):=by
  unfold hY Bx
  dsimp only
  rw [afe,Zl (v:=v) (by omega) hal (W d) (lines.map W) (nets.map W) ((az n sh).map W) (sh.map shW) (am.map W) (bN n fl) (tx.map W) _ ?_,aG]
  ·rfl
  ·simp;omega
 rw [hb]
 have him:iC d=true:=gx.2 hd
 unfold Z6 ry
 rw [him,cond_true]
 dsimp only
 cases hz:(lines.all fun b=>b==0) with
 | true=>
  rw [Bool.not_true,aee,cond_true,cond_true]
  refine .inl ⟨[(0,d)],bif d==0 then [] else [0],rfl,hsh.snoc hn0 hd,by simp, ?_⟩
  have hbr:fV (Bx v nets lines (az n sh) sh am (bN n fl) tx) 0 (W d)=some (Bx v nets lines (az n (sh++[(0,d)])) (sh++[(0,d)]) am (bN n fl) tx,()):=R7 v nets lines hn hsh (by omega) am (bN n fl) tx (k:=0) hn0 hd
  unfold Bx at hbr ⊢
  rw [show (v.1,v.2.1,v.2.2.1,v.2.2.2.1,v.2.2.2.2.1,v.2.2.2.2.2.1,v.2.2.2.2.2.2.1,v.2.2.2.2.2.2.2.1,v.2.2.2.2.2.2.2.2)=v from rfl,show ((W d).1,(W d).2)=W d from rfl,hbr,Option.bind_some]
  dsimp only
  have hg0:(bN n fl)[0]? =some (fl.contains 0):=AW _ hn0
  rw [aJ (by rw [rV];simp only [ad5,decide_eq_true_eq];omega),hg0,Option.bind_some]
  cases hc:fl.contains 0 with
  | true=>
   rw [cond_true,aJ (by rw [rV];simp only [ad5,decide_eq_true_eq];omega),Option.bind_some,DT,Yv hc]
   cases hd0:d==0 with
   | true=>rw [cond_true,aeM]
   | false=>rw [cond_false,Yv hc]
  | false=>
   rw [cond_false,sF,Option.bind_some,aJ (by rw [rV];simp only [ad5,decide_eq_true_eq];omega),Option.bind_some]
   dsimp only
   by_cases hd0:d=0
   ·subst hd0
    rw [show ((Int.sign 0) != 0)=false from rfl,abL hn0 hc,show ((0:Int)==0)=true from rfl,cond_true,aeM]
   ·have hs:(d.sign != 0)=true:=by
     have:=mt aeB.1 hd0
     simpa using this
    rw [hs,DT,show (d==0)=false by simpa using hd0,cond_false]
 | false=>
  rw [aee,Bool.not_true,cond_false,cond_false,S8 _ (by simp;omega),Option.bind_some,ZB]
  dsimp only
  cases hw:(lines.any fun b=>decide (MW<b.natAbs)) with
  | true=>rw [cond_true,cond_true];exact .inr ⟨rfl,_,rfl⟩
  | false=>
   rw [cond_false,cond_false,show ((W d).1,(W d).2)=W d from rfl,K7,Option.bind_some,if_pos (by omega)]
   dsimp only
   have hws:Ao (lines.map Int.natAbs):=by
    refine ⟨by simp;omega,fun w hwm=> ?_,KB hz⟩
    have:=hw
    rw [← ZB,aeJ] at this
    have h1:=this w hwm
    simpa using h1
   rw [SJ d v.2.2.2.1 (by omega) (by omega) _ hws,Option.bind_some]
   dsimp only
   rw [show ((0:Int) != 0)=false from rfl,cond_false]
   have hxl:(b8 d (lines.map Int.natAbs)).length=n:=by rw [EG,afe,hll]
   have hxs:∀ x∈b8 d (lines.map Int.natAbs),(x.natAbs:Int)≤MU:=fun x hx=>by
    have:=M0 (n:=d) hws.pos hx
    omega
   have hmem:=Mn (b8 d (lines.map Int.natAbs)) 0
   have hlenz:(di 0 (b8 d (lines.map Int.natAbs))).length≤20:=by
    have nz_len:∀ (l:List Int) (k:Nat),(di k l).length≤l.length:=by
     intro l
     induction l with
     | nil=>intro k;simp [di]
     | cons y l ih=>
      intro k
      have:=ih (k+1)
      simp only [di]
      split<;>simp<;>omega
    have:=nz_len (b8 d (lines.map Int.natAbs)) 0
    omega
   refine .inl ⟨_,_,rfl,⟨fun p hp=> ?_,fun p hp=> ?_⟩,hlenz, ?_⟩
   ·rcases afp.1 hp with hp | hp
    ·exact hsh.ix p hp
    ·have:=(hmem p hp).2.1;omega
   ·rcases afp.1 hp with hp | hp
    ·exact hsh.am p hp
    ·exact hxs _ (hmem p hp).2.2.1
   ·rw [afe,aay (v:=v) (nets:=nets) (lines:=lines) (am:=am) (tx:=tx) hn hsh hl fl (pl:=v.2.2.2.1) hxl hxs _ ?_,aG]
    ·rfl
    ·simp;omega
theorem Xm {v:ah} (hv:lf v) (nets:List Int) (am tx:List Int) {n:Nat} (hn0:0<n) (hn:n≤20) {lines:List Int} (hll:lines.length=n) (hal:aV lines=true) {sh:Br} (hsh:iX n sh) (hl:sh.length≤1900) (hal2:am.length≤1000) (fl:List Nat)
 (o:Option Nat) (k:Nat) (ho:∀ k',o=some k'→k=k'∧k'<n) (d:Int):
 (∃ p g,ry o d lines= .inr (d,p,g)∧iX n (sh++p)∧p.length≤20∧E6 ((k:Int),o.isSome,(W d).1,(W d).2,v.1,v.2.1,v.2.2.1,v.2.2.2.1,v.2.2.2.2.1,v.2.2.2.2.2.1,v.2.2.2.2.2.2.1,v.2.2.2.2.2.2.2.1,v.2.2.2.2.2.2.2.2,lines.map W,nets.map W,(az n sh).map W,sh.map shW,am.map W,bN n fl,tx.map W,())=
   some (bif aV (az n (sh++p)) then 0 else 1,Bx v nets lines (az n (sh++p)) (sh++p) (am++[d]) (bN n (fl++g)) tx,()))∨
 (∃ f b,f≠0∧ry o d lines= .inl f∧E6 ((k:Int),o.isSome,(W d).1,(W d).2,v.1,v.2.1,v.2.2.1,v.2.2.2.1,v.2.2.2.2.1,v.2.2.2.2.2.1,v.2.2.2.2.2.2.1,v.2.2.2.2.2.2.2.1,v.2.2.2.2.2.2.2.2,lines.map W,nets.map W,(az n sh).map W,sh.map shW,am.map W,bN n fl,tx.map W,())=some (f,b,())):=by
 unfold E6
 dsimp only
 rw [show ((W d).1,(W d).2)=W d from rfl,Fj,Option.bind_some]
 dsimp only
 cases him:iC d with
 | false=>
  refine .inr ⟨1,_,by omega, ?_,rfl⟩
  unfold ry;rw [him];rfl
 | true=>
  have hd:=gx.1 him
  rw [Bool.not_true,cond_false,aJ (fY (by simp;omega) (by simp;omega))]
  rw [show (v.1,v.2.1,v.2.2.1,v.2.2.2.1,v.2.2.2.2.1,v.2.2.2.2.2.1,v.2.2.2.2.2.2.1,v.2.2.2.2.2.2.2.1,v.2.2.2.2.2.2.2.2)=v from rfl,show am.map W++[W d]=(am++[d]).map W by simp]
  cases o with
  | some k'=>
   obtain ⟨rfl,hk⟩:=ho k' rfl
   have hb:=R7 v nets lines hn hsh (by omega) (am++[d]) (bN n fl) tx hk hd
   unfold Bx at hb
   rw [agu,cond_true,hb,Option.bind_some]
   dsimp only
   rw [aJ (by rw [rV];simp only [ad5,decide_eq_true_eq];omega),aeF,AW _ hk,Option.bind_some,NW _ (by rw [cg];omega),Option.bind_some,DT]
   dsimp only
   refine .inl ⟨[(k,d)],[k],by unfold ry;rw [him];rfl,hsh.snoc hk hd,by simp, ?_⟩
   unfold Bx
   cases aV (az n (sh++[(k,d)]))<;>rfl
  | none=>
   rw [Option.isSome_none,cond_false]
   rcases abk hv nets (am++[d]) tx hn0 hn hll hal hsh hl fl hd with ⟨p,g,h1,h2,h3,h4⟩ | ⟨h1,b,h4⟩
   ·unfold Bx at h4
    rw [h4,Option.bind_some]
    dsimp only
    rw [show ((0:Int) != 0)=false from rfl,cond_false,NW _ (by rw [cg];omega),Option.bind_some]
    dsimp only
    refine .inl ⟨p,g,h1,h2,h3, ?_⟩
    unfold Bx
    cases aV (az n (sh++p))<;>rfl
   ·unfold Bx at h4
    rw [h4,Option.bind_some]
    exact .inr ⟨2,_,by omega,h1,rfl⟩
end Go.Md
namespace Go.Md
open Go.Dn
theorem WO {v:ah} (hv:lf v) {x:av} (hx:Uf (vPl v) x) (nb:Bool) (k:Int) {g:Int} (hg:Le 40 g) (L N B:List aa) (S:List aO) (A:List aa) (H:List Bool) (T:List aa):
 VM (k,nb,x.1,x.2.1.1,x.2.1.2,x.2.2,(W g).1,(W g).2,v.1,v.2.1,v.2.2.1,v.2.2.2.1,v.2.2.2.2.1,v.2.2.2.2.2.1,v.2.2.2.2.2.2.1,v.2.2.2.2.2.2.2.1,v.2.2.2.2.2.2.2.2,L,N,B,S,A,H,T,())=
  E6 (k,nb,(W (gj (iE v) (vPl v) g x)).1,(W (gj (iE v) (vPl v) g x)).2,v.1,v.2.1,v.2.2.1,v.2.2.2.1,v.2.2.2.2.1,v.2.2.2.2.2.1,v.2.2.2.2.2.2.1,v.2.2.2.2.2.2.2.1,v.2.2.2.2.2.2.2.2,L,N,B,S,A,H,T,()):=by
 have hpl:=hv.pl
 have hd1:=hx.dec.1;have hd2:=hx.dec.2
 unfold VM
 dsimp only
 have hmx:(if x.2.1.2>v.2.2.2.1 then x.2.1.2 else v.2.2.2.1)=max v.2.2.2.1 x.2.1.2:=by omega
 rw [hmx,show (x.2.1.1,x.2.1.2)=x.2.1 from rfl,IQ _ _ (by omega) (by omega) (by omega) (by omega) (by omega),Option.bind_some]
 dsimp only
 cases hp:x.1 with
 | true=>
  rw [cond_true,show (v.1,v.2.1,v.2.2.1,v.2.2.2.1,v.2.2.2.2.1,v.2.2.2.2.2.1,v.2.2.2.2.2.2.1,v.2.2.2.2.2.2.2.1,v.2.2.2.2.2.2.2.2)=v from rfl,show ((W g).1,(W g).2)=W g from rfl,B6 v g _ hx.dec (hg.mono (by omega)),Option.bind_some,aG]
  unfold gj
  rw [hp,if_pos rfl]
  rfl
 | false=>
  have hpp:x.2.1.2≤v.2.2.2.1:=hx.place hp
  rw [cond_false,aG,show max v.2.2.2.1 x.2.1.2=v.2.2.2.1 by omega]
  unfold gj
  rw [hp,if_neg (by simp)]
  rfl
theorem tv {l:List Int} {i:Nat} {x:Int} (h:l[i]? =some x):(l.take (i+1)).sum=(l.take i).sum+x:=by
 rw [afM,h,afK];simp
theorem BB {l:List Int} (hl:l.length≤1000) (h:aV l=true):Le 19 l.sum:=by
 have key:∀ l:List Int,aV l=true→l.sum.natAbs≤l.length*1000000000000000:=by
  intro l
  induction l with
  | nil=>intro _;simp
  | cons x l ih=>
   intro h
   unfold aV at h ih
   simp only [aeH,ad5] at h
   have h1:=ih h.2
   have h2:=gx.1 h.1
   have:=oc
   simp only [afL,afd,afS,agh]
   omega
 have h1:=key l h
 have h2:l.length*1000000000000000≤1000*1000000000000000:=age _ hl
 exact Le.int (by omega) (by omega)
theorem Mh {l:List Int} (h:aV l=true) (i:Nat):aV (l.take i)=true:=by
 unfold aV at*
 rw [aeI] at*
 exact fun x hx=>h x (afx hx)
theorem abC {v:ah} (x:av) (k:Int) {lines:List Int} (hl:lines.length≤1000) (hal:aV lines=true) (L N B:List aa) (S:List aO) (A:List aa) (H:List Bool) (T:List aa) (f:Nat) (hf:lines.length<f):
 iter f ((k,false,lines.map W,(lines.length:Int),(0:Int),x.1,x.2.1.1,x.2.1.2,x.2.2,(W 0).1,(W 0).2,v.1,v.2.1,v.2.2.1,v.2.2.2.1,v.2.2.2.2.1,v.2.2.2.2.2.1,v.2.2.2.2.2.2.1,v.2.2.2.2.2.2.2.1,v.2.2.2.2.2.2.2.2,L,N,B,S,A,H,T,()):mC) qy=
  some (Sum.inr (k,false,x.1,x.2.1.1,x.2.1.2,x.2.2,(W lines.sum).1,(W lines.sum).2,v.1,v.2.1,v.2.2.1,v.2.2.2.1,v.2.2.2.2.1,v.2.2.2.2.2.1,v.2.2.2.2.2.2.1,v.2.2.2.2.2.2.2.1,v.2.2.2.2.2.2.2.2,L,N,B,S,A,H,T,())):=by
 refine bn (Inv:=fun i X=>X=((k,false,lines.map W,(lines.length:Int),(i:Int),x.1,x.2.1.1,x.2.1.2,x.2.2,(W (lines.take i).sum).1,(W (lines.take i).sum).2,v.1,v.2.1,v.2.2.1,v.2.2.2.1,v.2.2.2.2.1,v.2.2.2.2.2.1,v.2.2.2.2.2.2.1,v.2.2.2.2.2.2.2.1,v.2.2.2.2.2.2.2.2,L,N,B,S,A,H,T,()):mC)) lines.length
  (fun r=>r=some (Sum.inr (k,false,x.1,x.2.1.1,x.2.1.2,x.2.2,(W lines.sum).1,(W lines.sum).2,v.1,v.2.1,v.2.2.1,v.2.2.2.1,v.2.2.2.2.1,v.2.2.2.2.2.1,v.2.2.2.2.2.2.1,v.2.2.2.2.2.2.2.1,v.2.2.2.2.2.2.2.2,L,N,B,S,A,H,T,()))) ?_ ?_ f 0 _ rfl (by omega) (by omega)
 ·rintro i _ again hi rfl ih
  unfold qy
  dsimp only
  have hz:lines[i]? =some lines[i]:=aH hi
  have hzm:iC lines[i]=true:=aeI.1 hal _ (afb hi)
  generalize lines[i]=z at hz hzm
  have h1:=BB (l:=lines.take i) (by rw [afk];omega) (Mh hal i)
  have h2:=Ht (gx.1 hzm)
  rw [aE (by omega),bh,List.getElem?_map,hz,agw,Option.bind_some,show ((W (lines.take i).sum).1,(W (lines.take i).sum).2)=W (lines.take i).sum from rfl,dP _ _ (h1.w (by omega)) (h2.w (by omega)),Option.bind_some,aA (by omega) (by omega), ← tv hz]
  exact ih _ rfl
 ·rintro _ again rfl
  unfold qy
  dsimp only
  rw [aF (by omega),afP (af0 _)]
theorem ab9 {v:ah} (hv:lf v) (nets am tx:List Int) {lines:List Int} (hll:lines.length=(ai v).length) (hal:aV lines=true) {sh:Br} (hsh:iX (ai v).length sh) (hl:sh.length≤1900) (hal2:am.length≤1000) (fl:List Nat) {x:av} (hx:Uf (vPl v) x):
 (∃ d p g,xT v lines x= .inr (d,p,g)∧iX (ai v).length (sh++p)∧p.length≤20∧mN (Bx v nets lines (az (ai v).length sh) sh am (bN (ai v).length fl) tx) x=
   some (bif aV (az (ai v).length (sh++p)) then 0 else 1,Bx v nets lines (az (ai v).length (sh++p)) (sh++p) (am++[d]) (bN (ai v).length (fl++g)) tx,()))∨
 (∃ f b,f≠0∧xT v lines x= .inl f∧mN (Bx v nets lines (az (ai v).length sh) sh am (bN (ai v).length fl) tx) x=some (f,b,())):=by
 have hrn:0<(ai v).length∧(ai v).length≤20:=hv.rn
 obtain ⟨k,hk1,hk2⟩:=DU (ai v) x.2.2 (by omega) hv.asc
 have hg:Le 40 (o6 v lines x):=by
  unfold o6
  cases ho:cn (·.1) x.2.2 (ai v) with
  | some k'=>
   dsimp only
   rw [List.getD_eq_getElem?_getD]
   cases hz:lines[k']? with
   | none=>exact (show Le 40 0 by unfold Le;simp)
   | some z=>exact (Ht (gx.1 (aeI.1 hal _ (List.mem_of_getElem? hz)))).mono (by omega)
  | none=>exact (BB (by omega) hal).mono (by omega)
 have hred:mN (Bx v nets lines (az (ai v).length sh) sh am (bN (ai v).length fl) tx) x=E6 ((k:Int),(cn (·.1) x.2.2 (ai v)).isSome,(W (gj (iE v) (vPl v) (o6 v lines x) x)).1,(W (gj (iE v) (vPl v) (o6 v lines x) x)).2,v.1,v.2.1,v.2.2.1,v.2.2.2.1,v.2.2.2.2.1,v.2.2.2.2.2.1,v.2.2.2.2.2.2.1,v.2.2.2.2.2.2.2.1,v.2.2.2.2.2.2.2.2,lines.map W,nets.map W,(az (ai v).length sh).map W,sh.map shW,am.map W,bN (ai v).length fl,tx.map W,()):=by
  rw [← WO hv hx]
  ·unfold mN Bx
   dsimp only
   rw [fX 0 (by omega) (by omega),Option.bind_some]
   have hk1':sk v.2.2.2.2.2.2.1 x.2.2=some ((k:Int),(cn (·.1) x.2.2 (ai v)).isSome,()):=hk1
   rw [hk1',Option.bind_some]
   dsimp only
   cases ho:cn (·.1) x.2.2 (ai v) with
   | some k'=>
    obtain rfl:=hk2 k' ho
    obtain ⟨rt,hrt,_⟩:=jG ho
    have hkl:k<lines.length:=by rw [hll];exact (List.getElem?_eq_some_iff.1 hrt).1
    have hz:lines[k]? =some lines[k]:=aH hkl
    rw [agu,cond_true,bh,List.getElem?_map,hz,agw,Option.bind_some,aG]
    have hbase:o6 v lines x=lines[k]:=by
     unfold o6;rw [ho];dsimp only;rw [List.getD_eq_getElem?_getD,hz];rfl
    rw [hbase]
    rfl
   | none=>
    have hbase:o6 v lines x=lines.sum:=by
     unfold o6;rw [ho]
    rw [hbase]
    rw [Option.isSome_none,cond_false,afe,abC (v:=v) x (k:Int) (by omega) hal (lines.map W) (nets.map W) ((az (ai v).length sh).map W) (sh.map shW) (am.map W) (bN (ai v).length fl) (tx.map W) _ ?_,aG,aG]
    ·rfl
    ·simp;omega
  ·exact hg
 rw [hred]
 unfold xT
 rcases Xm hv nets am tx hrn.1 hrn.2 hll hal hsh hl hal2 fl (cn (·.1) x.2.2 (ai v)) k (fun k' h=>⟨hk2 k' h,by obtain ⟨rt,hrt,_⟩:=jG h;exact (List.getElem?_eq_some_iff.1 hrt).1⟩) (gj (iE v) (vPl v) (o6 v lines x) x) with ⟨p,g,h1,h2,h3,h4⟩ | ⟨f,b,h1,h2,h3⟩
 ·exact .inl ⟨_,p,g,h1,h2,h3,h4⟩
 ·exact .inr ⟨f,b,h1,h2,h3⟩
end Go.Md
namespace Go.Md
open Go.Dn
theorem Ic {α:Type} {b:Bool} (h:b=true) (x y:α):(bif b then x else y)=x:=by rw [h];rfl
theorem HW {α:Type} {b:Bool} (h:b=false) (x y:α):(bif b then x else y)=y:=by rw [h];rfl
theorem ac6 {α:Type} {b:Bool} (h:b=true) (x y:α):(bif !b then x else y)=y:=by rw [h];rfl
theorem ac1 {α:Type} {b:Bool} (h:b=false) (x y:α):(bif !b then x else y)=x:=by rw [h];rfl
def K35:Nat:=10 ^ 35
theorem Le.k35 {z:Int} (h:Le 35 z):z.natAbs≤K35:=h
theorem adB {z:Int} {c:Nat} (hc:c≤1000) (h:z.natAbs≤c*K35):Le 38 z:=by
 unfold Le
 have h1:c*K35≤1000*K35:=age _ hc
 have h2:1000*K35=10 ^ 38:=by unfold K35;decide
 omega
theorem nq (way:Int) (pc:ak) (k:Nat):∀ (a b:Br),iF way pc k (a++b)=iF way pc k a+iF way pc k b
 | [],b=>by simp [iF]
 | p::a,b=>by simp only [aeN,iF,nq way pc k a b];omega
theorem ZL {way:Int} {pc:ak} (hp:b6 pc) (k:Nat):∀ {b:Br},(∀ p∈b,(p.2.natAbs:Int)≤MU)→(iF way pc k b).natAbs≤b.length*K35
 | [],_=>by simp [iF]
 | p::b,h=>by
  have h1:=ZL (way:=way) hp k (b:=b) fun q hq=>h q (afr _ hq)
  have h2:(iT way p.2 pc).natAbs≤K35:=(UG (Ht (h p afs)) hp:Le 35 _).k35
  simp only [iF,afd,afS,agh]
  split<;>omega
theorem Sx {v:ah} {k:Nat} {r:aD} (h:(ai v)[k]? =some r):nV v k=r.2:=by
 unfold nV;rw [List.getD_eq_getElem?_getD,h];rfl
theorem ab2 {v:ah} (hv:lf v) {br:Br} (hbr:iX (ai v).length br) (hl:br.length≤1000) (L N:List aa) (S:List aO) (A:List aa) (H:List Bool) (f:Nat) (hf:(ai v).length<f):
 iter f ((ai v,((ai v).length:Int),(0:Int),v.1,v.2.1,v.2.2.1,v.2.2.2.1,v.2.2.2.2.1,v.2.2.2.2.2.1,v.2.2.2.2.2.2.1,v.2.2.2.2.2.2.2.1,v.2.2.2.2.2.2.2.2,L,List.replicate (Int.toNat ((ai v).length:Int)) ((false,[]):aa),N,(az (ai v).length br).map W,S,A,H,()):oS) sN=
  some (Sum.inr (v.1,v.2.1,v.2.2.1,v.2.2.2.1,v.2.2.2.2.1,v.2.2.2.2.2.1,v.2.2.2.2.2.2.1,v.2.2.2.2.2.2.2.1,v.2.2.2.2.2.2.2.2,L,((List.range (ai v).length).map fun k=>if C6 v=true then 0 else iT (iE v) (atB br k) (nV v k)).map W,N,(az (ai v).length br).map W,S,A,H,())):=by
 have hrn:0<(ai v).length∧(ai v).length≤20:=hv.rn
 refine bn (Inv:=fun i X=>X=((ai v,((ai v).length:Int),(i:Int),v.1,v.2.1,v.2.2.1,v.2.2.2.1,v.2.2.2.2.1,v.2.2.2.2.2.1,v.2.2.2.2.2.2.1,v.2.2.2.2.2.2.2.1,v.2.2.2.2.2.2.2.2,L,((List.range (ai v).length).map fun k=>if C6 v=true∨i≤k then 0 else iT (iE v) (atB br k) (nV v k)).map W,N,(az (ai v).length br).map W,S,A,H,()):oS)) (ai v).length
  (fun r=>r=some (Sum.inr (v.1,v.2.1,v.2.2.1,v.2.2.2.1,v.2.2.2.2.1,v.2.2.2.2.2.1,v.2.2.2.2.2.2.1,v.2.2.2.2.2.2.2.1,v.2.2.2.2.2.2.2.2,L,((List.range (ai v).length).map fun k=>if C6 v=true then 0 else iT (iE v) (atB br k) (nV v k)).map W,N,(az (ai v).length br).map W,S,A,H,()))) ?_ ?_ f 0 _ ?_ (by omega) (by omega)
 ·rintro i _ again hi rfl ih
  unfold sN
  dsimp only
  have hr:(ai v)[i]? =some (ai v)[i]:=aH hi
  have hrm:=afb hi
  generalize (ai v)[i]=r at hr hrm
  have hpc:=Sx hr
  have hpo:=ZS hv i
  rw [aE (by omega),bh,hr,Option.bind_some]
  rcases Bool.eq_false_or_eq_true v.2.2.2.2.2.1 with hper | hper
  ·rw [ac6 hper,aA (by omega) (by omega)]
   refine ih _ ?_
   have hp:C6 v=true:=hper
   simp only [hp,true_or,agL]
   rfl
  ·have hp:C6 v=false:=hper
   have hbm:((az (ai v).length br).map W)[i]? =some (W (atB br i)):=by rw [List.getElem?_map,fW _ hi];rfl
   have htm:∃ y,(((List.range (ai v).length).map fun k=>if C6 v=true∨i≤k then 0 else iT (iE v) (atB br k) (nV v k)).map W)[i]? =some y:=⟨_,aH (by simp;omega)⟩
   obtain ⟨y0,hy0⟩:=htm
   rw [ac1 hper,aJ (by rw [afe,cg];simp only [ad5,decide_eq_true_eq];omega),aeF,hbm,Option.bind_some]
   rw [show (v.1,v.2.1,v.2.2.1,v.2.2.2.1,v.2.2.2.2.1,v.2.2.2.2.2.1,v.2.2.2.2.2.2.1,v.2.2.2.2.2.2.2.1,v.2.2.2.2.2.2.2.2)=v from rfl, ← hpc,B6 v _ _ hpo ((YA hbr (by omega) i).mono (by omega)),Option.bind_some]
   dsimp only
   rw [aJ (by simp only [afe,afh,ad5,decide_eq_true_eq];omega),hy0,Option.bind_some,aA (by omega) (by omega), ← List.map_set]
   refine ih _ ?_
   congr 13
   refine congrArg (fun z:List Int=>(z.map W,_)) ?_
   refine jf _ _ _ _ _ (fun j hj hji=> ?_) ?_
   ·simp only [hp,ad8,agJ]
    by_cases h1:i≤j
    ·rw [if_pos h1,if_pos (by omega)]
    ·rw [if_neg h1,if_neg (by omega)]
   ·simp only [hp,ad8,agJ]
    rw [if_neg (by omega)]
 ·rintro _ again rfl
  unfold sN
  dsimp only
  rw [aF (by omega)]
  congr 12
  refine congrArg (fun z:List Int=>(z.map W,_)) ?_
  apply afm
  intro k hk
  rw [afz] at hk
  by_cases hp:C6 v=true
  ·rw [if_pos (.inl hp),if_pos hp]
  ·rw [if_neg (fun h=>h.elim hp (fun h=>by omega)),if_neg hp]
 ·simp only [agn,or_true,agL]
  congr 13
  rw [aeF]
  refine congrArg (fun z:List aa=>(z,_)) ?_
  apply aeW
  intro i
  by_cases hi:i<(ai v).length
  ·rw [List.getElem?_map,List.getElem?_map,ae4 hi,ae5,if_pos hi];rfl
  ·rw [ae3 (by simp;omega),ae3 (by simp;omega)]
def IZ (v:ah) (br:Br) (i k:Nat):Int:=if C6 v=true then iF (iE v) (nV v k) k (br.take i) else iT (iE v) (atB br k) (nV v k)
theorem aba {v:ah} (hv:lf v) {br:Br} (hbr:iX (ai v).length br) (hl:br.length≤1000) (L N B:List aa) (A:List aa) (H:List Bool) (f:Nat) (hf:br.length<f):
 iter f (((br.length:Int),(0:Int),v.1,v.2.1,v.2.2.1,v.2.2.2.1,v.2.2.2.2.1,v.2.2.2.2.2.1,v.2.2.2.2.2.2.1,v.2.2.2.2.2.2.2.1,v.2.2.2.2.2.2.2.2,L,((List.range (ai v).length).map (IZ v br 0)).map W,N,B,br.map shW,A,H,()):oK) sP=
  some (Sum.inr (v.1,v.2.1,v.2.2.1,v.2.2.2.1,v.2.2.2.2.1,v.2.2.2.2.2.1,v.2.2.2.2.2.2.1,v.2.2.2.2.2.2.2.1,v.2.2.2.2.2.2.2.2,L,(cU v br).map W,N,B,br.map shW,A,H,())):=by
 refine bn (Inv:=fun i X=>X=(((br.length:Int),(i:Int),v.1,v.2.1,v.2.2.1,v.2.2.2.1,v.2.2.2.2.1,v.2.2.2.2.2.1,v.2.2.2.2.2.2.1,v.2.2.2.2.2.2.2.1,v.2.2.2.2.2.2.2.2,L,((List.range (ai v).length).map (IZ v br i)).map W,N,B,br.map shW,A,H,()):oK)) br.length
  (fun r=>r=some (Sum.inr (v.1,v.2.1,v.2.2.1,v.2.2.2.1,v.2.2.2.2.1,v.2.2.2.2.2.1,v.2.2.2.2.2.2.1,v.2.2.2.2.2.2.2.1,v.2.2.2.2.2.2.2.2,L,(cU v br).map W,N,B,br.map shW,A,H,()))) ?_ ?_ f 0 _ rfl (by omega) (by omega)
 ·rintro i _ again hi rfl ih
  unfold sP
  dsimp only
  have hp:br[i]? =some br[i]:=aH hi
  have hpm:=afb hi
  generalize br[i]=p at hp hpm
  have hpx:=hbr.ix p hpm
  have hpa:=hbr.am p hpm
  have hsm:(br.map shW)[i]? =some (shW p):=by rw [List.getElem?_map,hp];rfl
  rw [aE (by omega),aJ (by rw [afe];simp only [ad5,decide_eq_true_eq];omega),aeF,hsm,Option.bind_some]
  have e1:(shW p).1=(p.1:Int):=rfl
  have e2:(shW p).2=W p.2:=rfl
  rw [e1,e2]
  rcases Bool.eq_false_or_eq_true v.2.2.2.2.2.1 with hper | hper
  ·have hpr:C6 v=true:=hper
   have hr:(ai v)[p.1]? =some (ai v)[p.1]:=aH hpx
   generalize (ai v)[p.1]=r at hr
   have hpc:=Sx hr
   have hpo:=ZS hv p.1
   have htl:=ZL (way:=iE v) hpo p.1 (b:=br.take i) fun q hq=>hbr.am q (afx hq)
   have htl2:=adB (show (br.take i).length≤1000 by rw [afk];omega) htl
   have hpt:Le 38 (iT (iE v) p.2 (nV v p.1)):=(UG (Ht hpa) hpo:Le 35 _).mono (by omega)
   have hget:(((List.range (ai v).length).map (IZ v br i)).map W)[p.1]? =some (W (iF (iE v) (nV v p.1) p.1 (br.take i))):=by
    rw [List.getElem?_map,List.getElem?_map,ae4 hpx]
    unfold IZ
    simp only [agw,hpr,agL]
   have hck:(decide (0≤(p.1:Int))&&decide ((p.1:Int)<((((List.range (ai v).length).map (IZ v br i)).map W).length:Int)))=true:=by
    simp only [afe,afh,ad5,decide_eq_true_eq];omega
   rw [Ic hper,aJ hck,aeF,hget,Option.bind_some,bh,show v.2.2.2.2.2.2.1=ai v from rfl,hr,Option.bind_some]
   rw [show (v.1,v.2.1,v.2.2.1,v.2.2.2.1,v.2.2.2.2.1,v.2.2.2.2.2.1,ai v,v.2.2.2.2.2.2.2.1,v.2.2.2.2.2.2.2.2)=v from rfl, ← hpc,B6 v _ _ hpo ((Ht hpa).mono (by omega)),Option.bind_some]
   dsimp only
   rw [dP _ _ (htl2.w (by omega)) (hpt.w (by omega)),Option.bind_some,aJ hck,Option.bind_some,aA (by omega) (by omega), ← List.map_set]
   refine ih _ ?_
   congr 12
   refine congrArg (fun z:List Int=>(z.map W,_)) ?_
   have htk:br.take (i+1)=br.take i++[p]:=by rw [afM,hp];rfl
   refine jf _ _ _ _ _ (fun j hj hji=> ?_) ?_
   ·unfold IZ
    simp only [hpr,agL,htk,nq,iF]
    rw [if_neg (fun e=>hji e.symm)];omega
   ·unfold IZ
    simp only [hpr,agL,htk,nq,iF]
    omega
  ·have hpr:C6 v=false:=hper
   rw [HW hper,aA (by omega) (by omega)]
   refine ih _ ?_
   congr 12
   refine congrArg (fun z:List Int=>(z.map W,_)) ?_
   apply afm
   intro k _
   unfold IZ
   simp [hpr]
 ·rintro _ again rfl
  unfold sP
  dsimp only
  rw [aF (by omega)]
  congr 12
  refine congrArg (fun z:List Int=>(z.map W,_)) ?_
  apply afm
  intro k _
  unfold IZ tN
  rw [afP (af0 _)]
theorem adm {v:ah} (hv:lf v) (nets lines am:List Int) {br:Br} (hbr:iX (ai v).length br) (hl:br.length≤1000) (has:List Bool):
 yh (Bx v nets lines (az (ai v).length br) br am has [])=some (bif aV (cU v br) then 0 else 1,Bx v nets lines (az (ai v).length br) br am has (cU v br),()):=by
 have hrn:0<(ai v).length∧(ai v).length≤20:=hv.rn
 unfold yh Bx
 dsimp only
 rw [afe,cg,aJ (by simp only [ad5,decide_eq_true_eq];omega),ab2 hv hbr hl (lines.map W) (nets.map W) (br.map shW) (am.map W) has _ ?_,aG]
 ·dsimp only
  have e0:((List.range (ai v).length).map fun k=>if C6 v=true then 0 else iT (iE v) (atB br k) (nV v k))=(List.range (ai v).length).map (IZ v br 0):=by
   apply afm
   intro k _
   unfold IZ
   split<;>rfl
  rw [e0,afe,aba hv hbr hl (lines.map W) (nets.map W) ((az (ai v).length br).map W) (am.map W) has _ ?_,aG]
  ·dsimp only
   rw [Wa _ (by unfold cU;simp;omega),Option.bind_some]
   dsimp only
   cases aV (cU v br)<;>rfl
  ·simp;omega
 ·simp;omega
end Go.Md
namespace Go.Md
open Go.Dn
theorem ya (v:ah) (lines:List Int):∀ (a b:List av) (s:ESt),ck v lines (a++b) s=match ck v lines a s with | .inl f=> .inl f | .inr t=>ck v lines b t
 | [],b,s=>rfl
 | x::a,b,s=>by
  simp only [aeN,ck]
  cases xT v lines x with
  | inl f=>rfl
  | inr t=>
   dsimp only
   cases aV (az (ai v).length (s.1++t.2.1)) with
   | true=>simp only [cond_true];exact ya v lines a b _
   | false=>rfl
theorem Yw {v:ah} {lines:List Int} {l:List av} {i:Nat} {x:av} (hx:l[i]? =some x) {s t:ESt} (h:ck v lines (l.take i) s= .inr t):
 ck v lines (l.take (i+1)) s=match xT v lines x with | .inl f=> .inl f | .inr r=>bif aV (az (ai v).length (t.1++r.2.1)) then .inr (t.1++r.2.1,t.2.1++r.2.2,t.2.2++[r.1]) else .inl 1:=by
 rw [afM,hx,ya,h]
 simp only [Option.toList,ck]
 cases xT v lines x<;>rfl
theorem HQ {v:ah} {lines:List Int} {l:List av} {i:Nat} {s:ESt} {f:Int} (h:ck v lines (l.take i) s= .inl f):ck v lines l s= .inl f:=by
 have:=ya v lines (l.take i) (l.drop i) s
 rw [afN,h] at this
 exact this
def iB (v:ah) (lines:List Int) (s:ShZ):cI:=(v,s.nets.map W,lines.map W,(az (ai v).length s.br).map W,s.br.map shW,s.am.map W,bN (ai v).length s.fl,s.taxes.map W)
theorem YP {v:ah} (hv:lf v) (nets lines:List Int) (hll:lines.length=(ai v).length) (hal:aV lines=true) {lb:Br} (hlb:iX (ai v).length lb) (hlbl:lb.length≤500) (fl0:List Nat) (ar:List cI) (f:Nat) (hf:(bT v).length<f):
 (∃ s:ESt,ck v lines (bT v) (lb,fl0,[])= .inr s∧iX (ai v).length s.1∧s.1.length≤900∧
   iter f ((bT v,((bT v).length:Int),(0:Int),v.1,v.2.1,v.2.2.1,v.2.2.2.1,v.2.2.2.2.1,v.2.2.2.2.2.1,v.2.2.2.2.2.2.1,v.2.2.2.2.2.2.2.1,v.2.2.2.2.2.2.2.2,nets.map W,lines.map W,(az (ai v).length lb).map W,lb.map shW,([]:List aa),bN (ai v).length fl0,([]:List aa),ar,()):lT) oN=
    some (Sum.inr (v.1,v.2.1,v.2.2.1,v.2.2.2.1,v.2.2.2.2.1,v.2.2.2.2.2.1,v.2.2.2.2.2.2.1,v.2.2.2.2.2.2.2.1,v.2.2.2.2.2.2.2.2,nets.map W,lines.map W,(az (ai v).length s.1).map W,s.1.map shW,s.2.2.map W,bN (ai v).length s.2.1,([]:List aa),ar,())))∨
 (∃ fa,fa≠0∧ck v lines (bT v) (lb,fl0,[])= .inl fa∧
   iter f ((bT v,((bT v).length:Int),(0:Int),v.1,v.2.1,v.2.2.1,v.2.2.2.1,v.2.2.2.2.1,v.2.2.2.2.2.1,v.2.2.2.2.2.2.1,v.2.2.2.2.2.2.2.1,v.2.2.2.2.2.2.2.2,nets.map W,lines.map W,(az (ai v).length lb).map W,lb.map shW,([]:List aa),bN (ai v).length fl0,([]:List aa),ar,()):lT) oN=some (Sum.inl (none,fa,ar,()))):=by
 have hxl:(bT v).length≤20:=(rO hv.ext).1
 have hxe:=(rO hv.ext).2
 refine bn (Inv:=fun i X=>∃ s:ESt,ck v lines ((bT v).take i) (lb,fl0,[])= .inr s∧iX (ai v).length s.1∧s.1.length≤500+20*i∧s.2.2.length=i∧X=((bT v,((bT v).length:Int),(i:Int),v.1,v.2.1,v.2.2.1,v.2.2.2.1,v.2.2.2.2.1,v.2.2.2.2.2.1,v.2.2.2.2.2.2.1,v.2.2.2.2.2.2.2.1,v.2.2.2.2.2.2.2.2,nets.map W,lines.map W,(az (ai v).length s.1).map W,s.1.map shW,s.2.2.map W,bN (ai v).length s.2.1,([]:List aa),ar,()):lT)) (bT v).length
  (fun r=>(∃ s:ESt,ck v lines (bT v) (lb,fl0,[])= .inr s∧iX (ai v).length s.1∧s.1.length≤900∧r=some (Sum.inr (v.1,v.2.1,v.2.2.1,v.2.2.2.1,v.2.2.2.2.1,v.2.2.2.2.2.1,v.2.2.2.2.2.2.1,v.2.2.2.2.2.2.2.1,v.2.2.2.2.2.2.2.2,nets.map W,lines.map W,(az (ai v).length s.1).map W,s.1.map shW,s.2.2.map W,bN (ai v).length s.2.1,([]:List aa),ar,())))∨
    (∃ fa,fa≠0∧ck v lines (bT v) (lb,fl0,[])= .inl fa∧r=some (Sum.inl (none,fa,ar,())))) ?_ ?_ f 0 _ ⟨(lb,fl0,[]),rfl,hlb,by simpa using hlbl,rfl,rfl⟩ (by omega) (by omega)
 ·rintro i _ again hi ⟨s,h1,h2,h3,h4,rfl⟩ ih
  unfold oN
  dsimp only
  have hx:(bT v)[i]? =some (bT v)[i]:=aH hi
  have hxm:=afb hi
  generalize (bT v)[i]=x at hx hxm
  have hxo:=(hxe x hxm).1
  have hst:=Yw hx h1
  rw [aE (by omega),bh,hx,Option.bind_some]
  have he:=ab9 hv nets s.2.2 [] hll hal h2 (by omega) (by omega) s.2.1 hxo
  unfold Bx at he
  rw [show (v.1,v.2.1,v.2.2.1,v.2.2.2.1,v.2.2.2.2.1,v.2.2.2.2.2.1,v.2.2.2.2.2.2.1,v.2.2.2.2.2.2.2.1,v.2.2.2.2.2.2.2.2)=v from rfl]
  rcases he with ⟨d,p,g,g1,g2,g3,g4⟩ | ⟨fa,b,g0,g1,g4⟩
  ·rw [g1] at hst
   dsimp only at hst
   rw [show ([]:List aa)=([]:List Int).map W from rfl,g4,Option.bind_some]
   dsimp only
   cases ha:aV (az (ai v).length (s.1++p)) with
   | true=>
    rw [ha,cond_true] at hst
    rw [cond_true,show ((0:Int) != 0)=false from rfl,cond_false,aA (by omega) (by omega)]
    exact ih _ ⟨_,hst,g2,by rw [afc];omega,by rw [afc];simp [h4],rfl⟩
   | false=>
    rw [ha,cond_false] at hst
    rw [cond_false,show ((1:Int) != 0)=true from rfl,cond_true]
    exact .inr ⟨1,by omega,HQ hst,rfl⟩
  ·rw [g1] at hst
   rw [show ([]:List aa)=([]:List Int).map W from rfl,g4,Option.bind_some]
   dsimp only
   rw [show (fa != 0)=true by simpa using g0,cond_true]
   exact .inr ⟨fa,g0,HQ hst,rfl⟩
 ·rintro _ again ⟨s,h1,h2,h3,h4,rfl⟩
  unfold oN
  dsimp only
  rw [aF (by omega)]
  rw [afP (af0 _)] at h1
  exact .inl ⟨s,h1,h2,by omega,rfl⟩
theorem GL {v:ah} (h0:iq v=0):
 (∃ lines s,tU v= .inr s∧iX (ai v).length s.br∧s.br.length≤900∧kM v []=some (some 0,0,[iB v lines s],()))∨
 (∃ f,f≠0∧tU v= .inl f∧kM v []=some (none,f,[],())):=by
 have hv:=jM h0
 have hrn:0<(ai v).length∧(ai v).length≤20:=hv.rn
 have hln:0<(bu v).length∧(bu v).length≤500:=hv.ln
 unfold kM tU
 rw [Cj,Option.bind_some]
 dsimp only
 rw [h0,show ((0:Int) != 0)=false from rfl,cond_false]
 rcases Tg hv with ⟨lb,h1,h2,h3,h4,e⟩ | ⟨h1,b,e⟩
 ·rw [e,Option.bind_some,h1]
  unfold Bx
  dsimp only
  rw [show ((0:Int) != 0)=false from rfl,cond_false,h4,cond_true]
  have hll:=cg (ai v).length lb
  have hve:(bT v).length=v.2.2.2.2.2.2.2.2.length:=rfl
  rcases YP hv (lb.map (·.2)) (az (ai v).length lb) hll h4 h2 (by omega) (lb.map (·.1)) [] (v.2.2.2.2.2.2.2.2.length+(Int.natAbs ((v.2.2.2.2.2.2.2.2.length:Int))+(Int.natAbs (0:Int)+(v.1.length+(v.2.1.length+(v.2.2.1.natAbs+(v.2.2.2.1.natAbs+(v.2.2.2.2.1.natAbs+(v.2.2.2.2.2.2.1.length+(v.2.2.2.2.2.2.2.1.length+(v.2.2.2.2.2.2.2.2.length+(List.length ((lb.map (·.2)).map W)+(List.length ((az (ai v).length lb).map W)+(List.length ((az (ai v).length lb).map W)+(List.length (lb.map shW)+(List.length ([]:List aa)+(List.length (bN (ai v).length (lb.map (·.1)))+(List.length ([]:List aa)+(List.length ([]:List cI)+2))))))))))))))))))) (by omega) with ⟨s,g1,g2,g3,g4⟩ | ⟨fa,g0,g1,g4⟩
  ·rw [g1]
   dsimp only
   rw [show ([]:List Int).map W=([]:List aa) from rfl,g4,aG]
   dsimp only
   have ht:=adm hv (lb.map (·.2)) (az (ai v).length lb) s.2.2 g2 (by omega) (bN (ai v).length s.2.1)
   unfold Bx at ht
   rw [show ([]:List Int).map W=([]:List aa) from rfl] at ht
   rw [show (v.1,v.2.1,v.2.2.1,v.2.2.2.1,v.2.2.2.2.1,v.2.2.2.2.2.1,v.2.2.2.2.2.2.1,v.2.2.2.2.2.2.2.1,v.2.2.2.2.2.2.2.2)=v from rfl,ht,Option.bind_some]
   dsimp only
   cases ha:aV (cU v s.1) with
   | true=>
    rw [cond_true,cond_true,show ((0:Int) != 0)=false from rfl,cond_false]
    exact .inl ⟨_,_,rfl,g2,g3,rfl⟩
   | false=>
    rw [cond_false,cond_false,show ((1:Int) != 0)=true from rfl,cond_true]
    exact .inr ⟨1,by omega,rfl,rfl⟩
  ·rw [g1]
   dsimp only
   rw [show ([]:List Int).map W=([]:List aa) from rfl,g4,eV]
   exact .inr ⟨fa,g0,rfl,rfl⟩
 ·rw [e,Option.bind_some]
  dsimp only
  rw [show ((1:Int) != 0)=true from rfl,cond_true]
  refine .inr ⟨1,by omega, ?_,rfl⟩
  rcases h1 with h1 | ⟨lb,h1,h2⟩
  ·rw [h1]
  ·rw [h1]
   dsimp only
   rw [h2];rfl
end Go.Md
namespace Go.Md
open Go.Dn
theorem Bh {v:ah} (hv:lf v):∀ {l:List au} {lb:Br},(∀ x∈l,x∈bu v)→cz v l=some lb→iX (ai v).length lb∧lb.length=l.length∧∀ (i:Nat) (x:au) (p:Nat×Int),l[i]? =some x→lb[i]? =some p→A1 v x=some p.2∧p.1=M7 v x
 | [],lb,_,h=>by simp only [cz,Option.some.injEq] at h;subst h;exact ⟨⟨by simp,by simp⟩,rfl,by simp⟩
 | x::l,lb,hm,h=>by
  simp only [cz] at h
  cases hn:A1 v x with
  | none=>rw [hn] at h;cases h
  | some z=>
   rw [hn] at h
   simp only at h
   cases hl:cz v l with
   | none=>rw [hl] at h;cases h
   | some lb'=>
    rw [hl] at h
    simp only [agw,Option.some.injEq] at h
    subst h
    obtain ⟨h1,h2,h3⟩:=Bh hv (fun y hy=>hm y (afr _ hy)) hl
    have hxo:=hv.lines x (hm x afs)
    obtain ⟨k,hk⟩:=agt.1 hxo.rate
    obtain ⟨rt,hrt,_⟩:=jG hk
    have hkl:k<(ai v).length:=(List.getElem?_eq_some_iff.1 hrt).1
    refine ⟨⟨fun p hp=> ?_,fun p hp=> ?_⟩,by simp [h2],fun i y p hi hp=> ?_⟩
    ·rcases afq.1 hp with rfl | hp
     ·show (cn (·.1) x.2.2.2.2.2.2.2.2 (ai v)).getD 0<_
      rw [hk];exact hkl
     ·exact h1.ix p hp
    ·rcases afq.1 hp with rfl | hp
     ·exact (OJ hn).2
     ·exact h1.am p hp
    ·cases i with
     | zero=>
      simp only [ae1,Option.some.injEq] at hi hp
      subst hi;subst hp;exact ⟨hn,rfl⟩
     | succ i=>
      simp only [ae0] at hi hp
      exact h3 i y p hi hp
theorem Yt:∀ (l:List Int) (k:Nat),(di k l).length≤l.length
 | [],k=>by simp [di]
 | y::l,k=>by
  have:=Yt l (k+1)
  simp only [di]
  split<;>simp<;>omega
theorem abz {n:Nat} (hn0:0<n) (hn:n≤20) {o:Option Nat} (ho:∀ k,o=some k→k<n) {lines:List Int} (hll:lines.length=n) {d d':Int} {p:Br} {g:List Nat} (h:ry o d lines= .inr (d',p,g)):
 d'=d∧iC d=true∧iX n p∧p.length≤20∧(p.map (·.2)).sum=d∧∀ q∈p,q.2≠0→q.1∈g:=by
 unfold ry at h
 cases him:iC d with
 | false=>rw [him] at h;cases h
 | true=>
  rw [him,cond_true] at h
  have hd:=gx.1 him
  cases o with
  | some k=>
   simp only [Sum.inr.injEq,Prod.mk.injEq] at h
   obtain ⟨rfl,rfl,rfl⟩:=h
   exact ⟨rfl,rfl,⟨by simpa using ho k rfl,by simpa using hd⟩,by simp,by simp,by simp⟩
  | none=>
   dsimp only at h
   cases hz:(lines.all fun b=>b==0) with
   | true=>
    rw [hz,cond_true] at h
    simp only [Sum.inr.injEq,Prod.mk.injEq] at h
    obtain ⟨rfl,rfl,rfl⟩:=h
    refine ⟨rfl,rfl,⟨by simpa using hn0,by simpa using hd⟩,by simp,by simp,fun q hq hq0=> ?_⟩
    rw [afB.1 hq] at hq0 ⊢
    rw [show (d==0)=false by simpa using hq0,cond_false]
    simp
   | false=>
    rw [hz,cond_false] at h
    cases hw:(lines.any fun b=>decide (MW<b.natAbs)) with
    | true=>rw [hw] at h;cases h
    | false=>
     rw [hw,cond_false] at h
     simp only [Sum.inr.injEq,Prod.mk.injEq] at h
     obtain ⟨rfl,rfl,rfl⟩:=h
     have hpos:=KB hz
     have hmem:=Mn (b8 d (lines.map Int.natAbs)) 0
     have hxl:(b8 d (lines.map Int.natAbs)).length=n:=by rw [EG,afe,hll]
     refine ⟨rfl,rfl,⟨fun q hq=> ?_,fun q hq=> ?_⟩, ?_, ?_,fun q hq _=>List.mem_map_of_mem hq⟩
     ·have:=(hmem q hq).2.1;omega
     ·have:=M0 (n:=d) hpos (hmem q hq).2.2.1;omega
     ·have:=Yt (b8 d (lines.map Int.natAbs)) 0;omega
     ·rw [Yf,Y4 hpos]
theorem iX.append {n:Nat} {a b:Br} (ha:iX n a) (hb:iX n b):iX n (a++b):=
 ⟨fun p hp=>(afp.1 hp).elim (ha.ix p) (hb.ix p),fun p hp=>(afp.1 hp).elim (ha.am p) (hb.am p)⟩
theorem TP {v:ah} (hv:lf v) {lines:List Int} (hll:lines.length=(ai v).length):∀ (l:List av) (s t:ESt),ck v lines l s= .inr t→iX (ai v).length s.1→aV s.2.2=true→(∀ q∈s.1,q.2≠0→q.1∈s.2.1)→aV (az (ai v).length s.1)=true→
 iX (ai v).length t.1∧t.1.length≤s.1.length+20*l.length∧aV t.2.2=true∧t.2.2.length=s.2.2.length+l.length∧(t.1.map (·.2)).sum=(s.1.map (·.2)).sum+(t.2.2.sum - s.2.2.sum)∧(∀ q∈t.1,q.2≠0→q.1∈t.2.1)∧aV (az (ai v).length t.1)=true
 | [],s,t,h,h1,h2,h3,h4=>by
  simp only [ck,Sum.inr.injEq] at h
  subst h
  exact ⟨h1,by simp,h2,by simp,by omega,h3,h4⟩
 | x::l,s,t,h,h1,h2,h3,h4=>by
  have hrn:0<(ai v).length∧(ai v).length≤20:=hv.rn
  simp only [ck] at h
  cases hb:xT v lines x with
  | inl f=>rw [hb] at h;cases h
  | inr r=>
   obtain ⟨d,p,g⟩:=r
   rw [hb] at h
   dsimp only at h
   unfold xT at hb
   have hbo:=abz hrn.1 hrn.2 (fun k hk=>by obtain ⟨rt,hrt,_⟩:=jG hk;exact (List.getElem?_eq_some_iff.1 hrt).1) hll hb
   obtain ⟨rfl,g1,g2,g3,g4,g5⟩:=hbo
   cases ha:aV (az (ai v).length (s.1++p)) with
   | false=>rw [ha] at h;cases h
   | true=>
    rw [ha,cond_true] at h
    generalize gj (iE v) (vPl v) (o6 v lines x) x=d at*
    obtain ⟨k1,k2,k3,k4,k5,k6,k7⟩:=TP hv hll l _ t h (h1.append g2) (by unfold aV at *;rw [List.all_append,h2];simpa using g1) (fun q hq hq0=>by
     rcases afp.1 hq with hq | hq
     ·exact afp.2 (.inl (h3 q hq hq0))
     ·exact afp.2 (.inr (g5 q hq hq0))) ha
    dsimp only at k2 k4 k5
    refine ⟨k1, ?_,k3, ?_, ?_,k6,k7⟩
    ·rw [afc] at k2;simp only [afd];omega
    ·rw [afc] at k4;simp only [afd,aff] at k4 ⊢;omega
    ·rw [k5,afl,afK,g4,afK];simp;omega
structure SOk (v:ah) (s:ShZ):Prop where
 nets:aV s.nets=true
 netl:s.nets.length=(bu v).length
 neti:∀ (i:Nat) (x:au) (z:Int),(bu v)[i]? =some x→s.nets[i]? =some z→A1 v x=some z
 br:iX (ai v).length s.br
 brl:s.br.length≤900
 bs:aV (az (ai v).length s.br)=true
 am:aV s.am=true
 aml:s.am.length≤20
 tx:aV s.taxes=true
 txe:s.taxes=cU v s.br
 sum:(s.br.map (·.2)).sum=s.nets.sum+s.am.sum
 fl:∀ q∈s.br,q.2≠0→q.1∈s.fl
theorem Ke {v:ah} (hv:lf v) {s:ShZ} (h:tU v= .inr s):SOk v s:=by
 have hln:0<(bu v).length∧(bu v).length≤500:=hv.ln
 have hxl:(bT v).length≤20:=(rO hv.ext).1
 unfold tU at h
 cases hl:cz v (bu v) with
 | none=>rw [hl] at h;cases h
 | some lb=>
  rw [hl] at h
  dsimp only at h
  cases ha:aV (az (ai v).length lb) with
  | false=>rw [ha] at h;cases h
  | true=>
   rw [ha,cond_true] at h
   cases he:ck v (az (ai v).length lb) (bT v) (lb,lb.map (·.1),[]) with
   | inl f=>rw [he] at h;cases h
   | inr t=>
    rw [he] at h
    dsimp only at h
    cases ht:aV (cU v t.1) with
    | false=>rw [ht] at h;cases h
    | true=>
     rw [ht,cond_true] at h
     cases h
     obtain ⟨b1,b2,b3⟩:=Bh hv (fun x hx=>hx) hl
     obtain ⟨k1,k2,k3,k4,k5,k6,k7⟩:=TP hv (cg _ _) _ _ t he b1 rfl (fun q hq _=>List.mem_map_of_mem hq) ha
     dsimp only at k2 k4 k5
     refine ⟨?_,by simp [b2],fun i x z hx hz=> ?_,k1,by show t.1.length≤900;omega,k7,k3,by show t.2.2.length≤20;simp only [aff] at k4;omega,ht,rfl,by rw [k5];simp,k6⟩
     ·show aV (lb.map (·.2))=true
      unfold aV
      rw [aeI]
      intro z hz
      obtain ⟨p,hp,rfl⟩:=afw.1 hz
      exact gx.2 (b1.am p hp)
     ·simp only [List.getElem?_map] at hz
      cases hp:lb[i]? with
      | none=>rw [hp] at hz;cases hz
      | some p=>
       rw [hp] at hz
       simp only [agw,Option.some.injEq] at hz
       subst hz
       exact (b3 i x p hx hp).1
def ads (v:ah) (s:ShZ):tJ:=(Hf v s.nets.sum,Hf v s.am.sum,Hf v (s.nets.sum+s.am.sum),Hf v s.taxes.sum,Hf v (s.nets.sum+s.am.sum+s.taxes.sum))
def Ep (v:ah) (s:ShZ) (k:Nat):bQ:=(((ai v).getD k ([],(0,0))).1,Hf v (atB s.br k),Hf v (tN v s.br k))
def Jq (v:ah) (s:ShZ):List bQ:=((List.range (ai v).length).filter fun k=>s.fl.contains k).map (Ep v s)
theorem Kt {l:List Int} (hl:l.length≤1000) (hal:aV l=true):Ef (l.map W)=some (W l.sum,()):=by
 unfold Ef
 rw [fX 0 (by omega) (by omega),Option.bind_some]
 dsimp only
 have loop:∀ f,l.length<f→iter f ((l.map W,(l.length:Int),(0:Int),false,([]:List Int),(W 0).1,(W 0).2,()):z1) ED=some (Sum.inr (false,([]:List Int),(W l.sum).1,(W l.sum).2,())):=by
  intro f hf
  refine bn (Inv:=fun i X=>X=((l.map W,(l.length:Int),(i:Int),false,([]:List Int),(W (l.take i).sum).1,(W (l.take i).sum).2,()):z1)) l.length (fun r=>r=some (Sum.inr (false,([]:List Int),(W l.sum).1,(W l.sum).2,()))) ?_ ?_ f 0 _ rfl (by omega) (by omega)
  ·rintro i _ again hi rfl ih
   unfold ED
   dsimp only
   have hz:l[i]? =some l[i]:=aH hi
   have hzm:iC l[i]=true:=aeI.1 hal _ (afb hi)
   generalize l[i]=z at hz hzm
   have h1:=BB (l:=l.take i) (by rw [afk];omega) (Mh hal i)
   have h2:=Ht (gx.1 hzm)
   rw [aE (by omega),bh,List.getElem?_map,hz,agw,Option.bind_some,show ((W (l.take i).sum).1,(W (l.take i).sum).2)=W (l.take i).sum from rfl,dP _ _ (h1.w (by omega)) (h2.w (by omega)),Option.bind_some,aA (by omega) (by omega), ← tv hz]
   exact ih _ rfl
  ·rintro _ again rfl
   unfold ED
   dsimp only
   rw [aF (by omega),afP (af0 _)]
 rw [afe,loop _ (by omega),aG]
theorem pX (v:ah) (lines:List Int) (s:ShZ) {z:Int} (hz:iC z=true):gG (some 0) (W z) [iB v lines s]=some (Hf v z,()):=by
 have h:=gx.1 hz
 have:=oc
 unfold gG
 rw [Option.bind_some,show ([iB v lines s]:List cI)[0]? =some (iB v lines s) from rfl,Option.bind_some,K7,if_pos (by omega),Option.bind_some]
 rfl
theorem LP {v:ah} (hv:lf v) (lines:List Int) {s:ShZ} (hs:SOk v s):
 oW (some 0) [iB v lines s]=some (bif aV (Eu s) then (ads v s,0,()) else (((0,0),(0,0),(0,0),(0,0),0,0),1,())):=by
 have hln:0<(bu v).length∧(bu v).length≤500:=hv.ln
 have hrn:0<(ai v).length∧(ai v).length≤20:=hv.rn
 have htl:s.taxes.length≤20:=by rw [hs.txe];unfold cU;simp;omega
 have hnl:=hs.netl;have haml:=hs.aml
 have n1:=BB (by omega) hs.nets
 have n2:=BB (by omega) hs.am
 have n3:=BB (by omega) hs.tx
 have n4:=(n1.add n2)
 have n5:=(n4.add (n3.mono (show 19≤20 by omega)))
 unfold oW
 have hg:([iB v lines s]:List cI)[0]? =some (iB v lines s):=rfl
 simp only [Option.bind_some,hg]
 rw [show (iB v lines s).2.1=s.nets.map W from rfl,Kt (by omega) hs.nets,Option.bind_some]
 rw [show (iB v lines s).2.2.2.2.2.1=s.am.map W from rfl,Kt (by omega) hs.am,Option.bind_some]
 rw [show (iB v lines s).2.2.2.2.2.2.2=s.taxes.map W from rfl,Kt (by omega) hs.tx,Option.bind_some]
 dsimp only
 rw [dP _ _ (n1.w (by omega)) (n2.w (by omega)),Option.bind_some]
 dsimp only
 rw [dP _ _ (n4.w (by omega)) (n3.w (by omega)),Option.bind_some]
 dsimp only
 rw [show [W s.nets.sum,W s.am.sum,W (s.nets.sum+s.am.sum),W s.taxes.sum,W (s.nets.sum+s.am.sum+s.taxes.sum)]=(Eu s).map W from rfl,Wi _ (by unfold Eu;simp),Option.bind_some]
 dsimp only
 cases ha:aV (Eu s) with
 | false=>rfl
 | true=>
  have hal:=ha
  unfold aV Eu at hal
  simp only [aeH,List.all_nil,ad7,ad5] at hal
  obtain ⟨a1,a2,a3,a4,a5⟩:=hal
  rw [Bool.not_true,cond_false,pX v lines s a1,Option.bind_some,pX v lines s a2,Option.bind_some,pX v lines s a3,Option.bind_some,pX v lines s a4,Option.bind_some,pX v lines s a5,Option.bind_some]
  rfl
theorem XT {v:ah} (hv:lf v) (lines:List Int) {s:ShZ} (hs:SOk v s):vY (some 0) [iB v lines s]=some (Jq v s,()):=by
 have hrn:0<(ai v).length∧(ai v).length≤20:=hv.rn
 have hg:([iB v lines s]:List cI)[0]? =some (iB v lines s):=rfl
 unfold vY
 rw [Option.bind_some,hg,Option.bind_some]
 have loop:∀ f,(ai v).length<f→iter f ((some 0,([]:List bQ),ai v,((ai v).length:Int),(0:Int),[iB v lines s],()):nH) ru=some (Sum.inr (Jq v s,[iB v lines s],())):=by
  intro f hf
  refine bn (Inv:=fun i X=>X=((some 0,((List.range i).filter fun k=>s.fl.contains k).map (Ep v s),ai v,((ai v).length:Int),(i:Int),[iB v lines s],()):nH)) (ai v).length (fun r=>r=some (Sum.inr (Jq v s,[iB v lines s],()))) ?_ ?_ f 0 _ rfl (by omega) (by omega)
  ·rintro i _ again hi rfl ih
   unfold ru
   dsimp only
   have hr:(ai v)[i]? =some (ai v)[i]:=aH hi
   generalize (ai v)[i]=r at hr
   have hrd:(ai v).getD i ([],(0,0))=r:=by rw [List.getD_eq_getElem?_getD,hr];rfl
   have hbz:iC (atB s.br i)=true:=by
    have:=hs.bs
    unfold aV at this
    exact aeI.1 this _ (List.mem_of_getElem? (fW s.br hi))
   have htz:(s.taxes)[i]? =some (tN v s.br i):=by
    rw [hs.txe];unfold cU;rw [List.getElem?_map,ae4 hi];rfl
   have htm:iC (tN v s.br i)=true:=aeI.1 hs.tx _ (List.mem_of_getElem? htz)
   have e1:idx (iB v lines s).2.2.2.2.2.2.1 (i:Int)=some (s.fl.contains i):=by
    rw [show (iB v lines s).2.2.2.2.2.2.1=bN (ai v).length s.fl from rfl,bh,AW _ hi]
   have e2:idx (iB v lines s).2.2.2.1 (i:Int)=some (W (atB s.br i)):=by
    rw [show (iB v lines s).2.2.2.1=(az (ai v).length s.br).map W from rfl,bh,List.getElem?_map,fW _ hi];rfl
   have e3:idx (iB v lines s).2.2.2.2.2.2.2 (i:Int)=some (W (tN v s.br i)):=by
    rw [show (iB v lines s).2.2.2.2.2.2.2=s.taxes.map W from rfl,bh,List.getElem?_map,htz];rfl
   have hfl:(((List.range i).filter fun k=>s.fl.contains k).map (Ep v s)).length≤20:=by
    rw [afe]
    have:=List.length_filter_le (fun k=>s.fl.contains k) (List.range i)
    rw [afh] at this
    omega
   have hstep:((List.range (i+1)).filter fun k=>s.fl.contains k).map (Ep v s)=((List.range i).filter fun k=>s.fl.contains k).map (Ep v s)++(if s.fl.contains i=true then [Ep v s i] else []):=by
    rw [afH,aeX,afl]
    cases hc:s.fl.contains i with
    | true=>rw [List.filter_cons_of_pos (by rw [hc]),List.filter_nil,if_pos rfl];rfl
    | false=>rw [List.filter_cons_of_neg (by rw [hc];exact ad9),List.filter_nil,if_neg ad9];rfl
   rw [aE (by omega),bh,hr]
   simp only [Option.bind_some,hg,e1]
   cases hc:s.fl.contains i with
   | true=>
    rw [hc,if_pos rfl] at hstep
    simp only [cond_true,e2,e3,Option.bind_some,pX v lines s hbz,pX v lines s htm]
    rw [aJ (fY (by omega) (by omega)),aA (by omega) (by omega)]
    refine ih _ ?_
    rw [hstep]
    unfold Ep
    rw [hrd]
    rfl
   | false=>
    rw [hc,if_neg (by simp),aeM] at hstep
    rw [cond_false,aA (by omega) (by omega)]
    refine ih _ ?_
    rw [hstep]
    rfl
  ·rintro _ again rfl
   unfold ru
   dsimp only
   rw [aF (by omega)]
   rfl
 have e:=loop (List.length ([]:List bQ)+(List.length (ai v)+(Int.natAbs ((List.length (ai v):Int))+(Int.natAbs (0:Int)+2)))) (by omega)
 rw [show (iB v lines s).1.2.2.2.2.2.2.1=ai v from rfl,e,aG]
def acL:tJ:=((0,0),(0,0),(0,0),(0,0),0,0)
def LA (v:ah):List bQ×Int×Unit:=if iq v≠0 then ([],iq v,()) else match kO v with | .inl f=>([],f,()) | .inr s=>(Jq v s,0,())
def Qx (v:ah):tJ×Int×Unit:=if iq v≠0 then (acL,iq v,()) else match kO v with | .inl f=>(acL,f,()) | .inr s=>(ads v s,0,())
theorem J3 {v:ah} (h:iq v≠0):kM v []=some (none,iq v,[],()):=by
 unfold kM
 rw [Cj,Option.bind_some]
 dsimp only
 rw [show (iq v != 0)=true by simpa using h,cond_true]
theorem V5 (v:ah):Hu v=some (LA v):=by
 unfold Hu LA
 by_cases h0:iq v=0
 ·rw [if_neg (by simpa using h0)]
  have hv:=jM h0
  unfold kO
  rcases GL h0 with ⟨lines,s,h1,h2,h3,e⟩ | ⟨f,hf,h1,e⟩
  ·have hs:=Ke hv h1
   rw [e,Option.bind_some,h1]
   dsimp only
   rw [show ((0:Int) != 0)=false from rfl,cond_false,LP hv lines hs,Option.bind_some]
   cases ha:aV (Eu s) with
   | true=>
    simp only [cond_true]
    rw [show ((0:Int) != 0)=false from rfl,cond_false,XT hv lines hs,Option.bind_some]
   | false=>rfl
  ·rw [e,Option.bind_some,h1]
   dsimp only
   rw [show (f != 0)=true by simpa using hf,cond_true]
 ·rw [if_pos h0,J3 h0,Option.bind_some]
  dsimp only
  rw [show (iq v != 0)=true by simpa using h0,cond_true]
theorem UE (v:ah):ES v=some (Qx v):=by
 unfold ES Qx
 by_cases h0:iq v=0
 ·rw [if_neg (by simpa using h0)]
  have hv:=jM h0
  unfold kO
  rcases GL h0 with ⟨lines,s,h1,h2,h3,e⟩ | ⟨f,hf,h1,e⟩
  ·have hs:=Ke hv h1
   rw [e,Option.bind_some,h1]
   dsimp only
   rw [show ((0:Int) != 0)=false from rfl,cond_false,LP hv lines hs,Option.bind_some]
   cases ha:aV (Eu s)<;>rfl
  ·rw [e,Option.bind_some,h1]
   dsimp only
   rw [show (f != 0)=true by simpa using hf,cond_true]
   rfl
 ·rw [if_pos h0,J3 h0,Option.bind_some]
  dsimp only
  rw [show (iq v != 0)=true by simpa using h0,cond_true]
  rfl
end Go.Md
namespace Go.Md
open Go.Dn
theorem qV {n r:Nat} (h:0<r):n<n+r:=by omega
theorem mM {n a r:Nat} (h:n<r):n<a+r:=by omega
end Go.Md
