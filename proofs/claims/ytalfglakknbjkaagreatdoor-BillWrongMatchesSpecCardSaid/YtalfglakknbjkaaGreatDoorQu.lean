/-
  Plain facts: the sheet by the program. No condition.
-/
import Derived.Test.YtalfglakknbjkaaGreatDoorQt
import Derived.Test.YtalfglakknbjkaaGreatDoorQn
set_option linter.all false
namespace Go.Md
open Go.Dn
theorem GQ (z:Int):ke (W z)=some (ic z,()):=DZ z
theorem wP {zs:List Int} {i:Nat} {z:Int} (h:zs[i]? =some z):bh (zs.take (i+1))=(bh (zs.take i)&&ic z):=by
 unfold bh
 rw[alK,h,List.all_append];simp
theorem Gi {zs:List Int} {i:Nat} {z:Int} (h:zs[i]? =some z) (hz:ic z=false):bh zs=false:=by
 unfold bh
 rw[List.all_eq_false]
 exact⟨z,alr h,by simp[hz]⟩
theorem contains_eq (zs:List Int) (hl:zs.length≤1000):jf (zs.map W) ()=some (!bh zs,()):=by
 unfold jf om
 have loop:∀ f,zs.length<f→(bh zs=true∧iter f ((zs.map W,(),(zs.length:Int),(0:Int),()):gx) gy=some (Sum.inr ()))∨
  (bh zs=false∧∃ j:Nat,iter f ((zs.map W,(),(zs.length:Int),(0:Int),()):gx) gy=some (Sum.inl ((j:Int),()))):=by
  intro f hf
  refine aZ (Inv:=fun i X=>X=(zs.map W,(),(zs.length:Int),(i:Int),())∧bh (zs.take i)=true) zs.length (fun r=>(bh zs=true∧r=some (Sum.inr ()))∨(bh zs=false∧∃ j:Nat,r=some (Sum.inl ((j:Int),())))) ?_ ?_ f 0 _ ⟨rfl,rfl⟩ (by omega) (by omega)
  ·rintro i _ again hi ⟨rfl,hal⟩ ih
   unfold gy
   dsimp only
   have hz:zs[i]? =some zs[i]:=aC hi
   generalize zs[i]=z at hz
   rw[aD (by omega),bf,akT,hz,amx,amq]
   unfold u6
   rw[GQ,amq,amq]
   dsimp only
   cases h:ic z with
   | true=>
    rw[ajW,amD,az (by omega) (by omega)]
    exact ih _ ⟨rfl,by rw[wP hz,hal,h];rfl⟩
   | false=>exact .inr ⟨Gi hz h,i,rfl⟩
  ·rintro _ again ⟨rfl,hal⟩
   unfold gy
   dsimp only
   rw[alN (alZ _)] at hal
   rw[aE (by omega)]
   exact .inl ⟨hal,rfl⟩
 rw[ak5]
 rcases loop (zs.length+(Int.natAbs ((zs.length:Int))+(Int.natAbs (0:Int)+2))) (by omega) with ⟨h,e⟩ | ⟨h,j,e⟩
 ·rw[e,aF,amq,h];rfl
 ·rw[e,dR,amq,h]
  dsimp only
  rw[amH (show (j:Int)≥0 by omega)];rfl
theorem PF (zs:List Int) (hl:zs.length≤1000):b6 (zs.map W) ()=some (!bh zs,()):=by
 unfold b6 ni
 have loop:∀ f,zs.length<f→(bh zs=true∧iter f ((zs.map W,(),(zs.length:Int),(0:Int),()):fE) fA=some (Sum.inr ()))∨
  (bh zs=false∧∃ j:Nat,iter f ((zs.map W,(),(zs.length:Int),(0:Int),()):fE) fA=some (Sum.inl ((j:Int),()))):=by
  intro f hf
  refine aZ (Inv:=fun i X=>X=(zs.map W,(),(zs.length:Int),(i:Int),())∧bh (zs.take i)=true) zs.length (fun r=>(bh zs=true∧r=some (Sum.inr ()))∨(bh zs=false∧∃ j:Nat,r=some (Sum.inl ((j:Int),())))) ?_ ?_ f 0 _ ⟨rfl,rfl⟩ (by omega) (by omega)
  ·rintro i _ again hi ⟨rfl,hal⟩ ih
   unfold fA
   dsimp only
   have hz:zs[i]? =some zs[i]:=aC hi
   generalize zs[i]=z at hz
   rw[aD (by omega),bf,akT,hz,amx,amq]
   unfold x9
   rw[GQ,amq,amq]
   dsimp only
   cases h:ic z with
   | true=>
    rw[ajW,amD,az (by omega) (by omega)]
    exact ih _ ⟨rfl,by rw[wP hz,hal,h];rfl⟩
   | false=>exact .inr ⟨Gi hz h,i,rfl⟩
  ·rintro _ again ⟨rfl,hal⟩
   unfold fA
   dsimp only
   rw[alN (alZ _)] at hal
   rw[aE (by omega)]
   exact .inl ⟨hal,rfl⟩
 rw[ak5]
 rcases loop (zs.length+(Int.natAbs ((zs.length:Int))+(Int.natAbs (0:Int)+2))) (by omega) with ⟨h,e⟩ | ⟨h,j,e⟩
 ·rw[e,aF,amq,h];rfl
 ·rw[e,dR,amq,h]
  dsimp only
  rw[amH (show (j:Int)≥0 by omega)];rfl
theorem aaf (zs:List Int) (hl:zs.length≤1000):iD (zs.map W) ()=some (!bh zs,()):=by
 unfold iD mW
 have loop:∀ f,zs.length<f→(bh zs=true∧iter f ((zs.map W,(),(zs.length:Int),(0:Int),()):fD) fF=some (Sum.inr ()))∨
  (bh zs=false∧∃ j:Nat,iter f ((zs.map W,(),(zs.length:Int),(0:Int),()):fD) fF=some (Sum.inl ((j:Int),()))):=by
  intro f hf
  refine aZ (Inv:=fun i X=>X=(zs.map W,(),(zs.length:Int),(i:Int),())∧bh (zs.take i)=true) zs.length (fun r=>(bh zs=true∧r=some (Sum.inr ()))∨(bh zs=false∧∃ j:Nat,r=some (Sum.inl ((j:Int),())))) ?_ ?_ f 0 _ ⟨rfl,rfl⟩ (by omega) (by omega)
  ·rintro i _ again hi ⟨rfl,hal⟩ ih
   unfold fF
   dsimp only
   have hz:zs[i]? =some zs[i]:=aC hi
   generalize zs[i]=z at hz
   rw[aD (by omega),bf,akT,hz,amx,amq]
   unfold CI
   rw[GQ,amq,amq]
   dsimp only
   cases h:ic z with
   | true=>
    rw[ajW,amD,az (by omega) (by omega)]
    exact ih _ ⟨rfl,by rw[wP hz,hal,h];rfl⟩
   | false=>exact .inr ⟨Gi hz h,i,rfl⟩
  ·rintro _ again ⟨rfl,hal⟩
   unfold fF
   dsimp only
   rw[alN (alZ _)] at hal
   rw[aE (by omega)]
   exact .inl ⟨hal,rfl⟩
 rw[ak5]
 rcases loop (zs.length+(Int.natAbs ((zs.length:Int))+(Int.natAbs (0:Int)+2))) (by omega) with ⟨h,e⟩ | ⟨h,j,e⟩
 ·rw[e,aF,amq,h];rfl
 ·rw[e,dR,amq,h]
  dsimp only
  rw[amH (show (j:Int)≥0 by omega)];rfl
theorem aab (zs:List Int) (hl:zs.length≤1000):iE (zs.map W) ()=some (!bh zs,()):=by
 unfold iE mV
 have loop:∀ f,zs.length<f→(bh zs=true∧iter f ((zs.map W,(),(zs.length:Int),(0:Int),()):fB) fC=some (Sum.inr ()))∨
  (bh zs=false∧∃ j:Nat,iter f ((zs.map W,(),(zs.length:Int),(0:Int),()):fB) fC=some (Sum.inl ((j:Int),()))):=by
  intro f hf
  refine aZ (Inv:=fun i X=>X=(zs.map W,(),(zs.length:Int),(i:Int),())∧bh (zs.take i)=true) zs.length (fun r=>(bh zs=true∧r=some (Sum.inr ()))∨(bh zs=false∧∃ j:Nat,r=some (Sum.inl ((j:Int),())))) ?_ ?_ f 0 _ ⟨rfl,rfl⟩ (by omega) (by omega)
  ·rintro i _ again hi ⟨rfl,hal⟩ ih
   unfold fC
   dsimp only
   have hz:zs[i]? =some zs[i]:=aC hi
   generalize zs[i]=z at hz
   rw[aD (by omega),bf,akT,hz,amx,amq]
   unfold wA
   rw[GQ,amq,amq]
   dsimp only
   cases h:ic z with
   | true=>
    rw[ajW,amD,az (by omega) (by omega)]
    exact ih _ ⟨rfl,by rw[wP hz,hal,h];rfl⟩
   | false=>exact .inr ⟨Gi hz h,i,rfl⟩
  ·rintro _ again ⟨rfl,hal⟩
   unfold fC
   dsimp only
   rw[alN (alZ _)] at hal
   rw[aE (by omega)]
   exact .inl ⟨hal,rfl⟩
 rw[ak5]
 rcases loop (zs.length+(Int.natAbs ((zs.length:Int))+(Int.natAbs (0:Int)+2))) (by omega) with ⟨h,e⟩ | ⟨h,j,e⟩
 ·rw[e,aF,amq,h];rfl
 ·rw[e,dR,amq,h]
  dsimp only
  rw[amH (show (j:Int)≥0 by omega)];rfl
theorem YG (l:List aa) (hl:l.length≤1000):nr l=some (l,()):=by
 unfold nr
 have hc:(decide ((0+l.length)*32≤140737488355328)&&decide (0+l.length≤maxLen))=true:=by
  simp only[ajK,amI];rw[Zk];omega
 rw[aH hc]
 cases l with
 | nil=>exact agH _
 | cons x r=>rfl
def shW (p:Nat×Int):bg:=((p.1:Int),W p.2)
def bU (n:Nat) (fl:List Nat):List Bool:=(List.range n).map fun k=>fl.contains k
theorem r0 (n:Nat) (fl:List Nat):(bU n fl).length=n:=by simp[bU]
theorem ac0 (n:Nat):bU n []=List.replicate n false:=by
 unfold bU
 apply akH
 intro i
 by_cases hi:i<n
 ·rw[akT,akU hi,akV,amQ hi];rfl
 ·rw[akR (by simp;omega),akR (by simp;omega)]
theorem FG {n k:Nat} (fl:List Nat):(bU n fl).set k true=bU n (fl++[k]):=by
 apply akH
 intro i
 by_cases hi:i<n
 ·have e:∀ f,(bU n f)[i]? =some (f.contains i):=fun f=>by unfold bU;rw[akT,akU hi];rfl
  rw[e]
  by_cases h:k=i
  ·subst h
   rw[akY (by rw[r0];exact hi)];simp
  ·rw[akX h,e]
   simp[show ¬ i=k from fun x=>h x.symm]
 ·rw[akR (by rw[alb,r0];omega),akR (by rw[r0];omega)]
theorem BY {n k:Nat} (fl:List Nat) (h:k<n):(bU n fl)[k]? =some (fl.contains k):=by
 unfold bU;rw[akT,akU h];rfl
theorem aeN (n:Nat):(aG n []).map W=List.replicate n (false,[]):=by
 apply akH
 intro i
 by_cases hi:i<n
 ·rw[akT,fy _ hi,akV,amQ hi];rfl
 ·rw[akR (by rw[ak5,cx];omega),akR (by simp;omega)]
def Bx (v:ah) (nets lines bases:List Int) (sh:Br) (am:List Int) (has:List Bool) (tx:List Int):ah×(List aa)×(List aa)×(List aa)×(List bg)×(List aa)×(List Bool)×(List aa)×Unit:=
 (v,nets.map W,lines.map W,bases.map W,sh.map shW,am.map W,has,tx.map W,())
theorem HJ (v:ah):∀ (a b:List au),cI v (a++b)=match cI v a with | some l=>(cI v b).map (l++ ·) | none=>none
 | [],b=>by simp[cI]
 | x::a,b=>by
  simp only[aky,cI]
  cases CA v x with
  | none=>rfl
  | some n=>
   dsimp only
   rw[HJ v a b]
   cases cI v a with
   | none=>rfl
   | some l=>cases cI v b<;>rfl
def OY (v:ah) (x:au):Nat:=(cB (·.1) x.2.2.2.2.2.2.2.2 (ai v)).getD 0
theorem Ue {v:ah} {l:List au} {i:Nat} {x:au} (hx:l[i]? =some x) {b:Br} (h:cI v (l.take i)=some b):
 cI v (l.take (i+1))=(CA v x).map fun n=>b++[(OY v x,n)]:=by
 rw[alK,hx,HJ,h]
 simp only[Option.toList,cI]
 cases CA v x<;>rfl
theorem Uc {v:ah} {l:List au} {i:Nat} (h:cI v (l.take i)=none):cI v l=none:=by
 have:=HJ v (l.take i) (l.drop i)
 rw[alL,h] at this
 exact this
theorem nA:MU=1000000000000000:=rfl
structure jj (n:Nat) (b:Br):Prop where
 ix:∀ p∈b,p.1<n
 am:∀ p∈b,(p.2.natAbs:Int)≤MU
theorem ahe {n:Nat} {b:Br} (h:jj n b) (k:Nat):(atB b k).natAbs≤b.length*1000000000000000:=by
 have am:=h.am
 have hMU:=nA
 clear h
 induction b with
 | nil=>simp[atB]
 | cons p b ih=>
  have h1:=ih fun q hq=>am q (alj _ hq)
  have h2:=am p alk
  simp only[atB,ak3,alQ,amf]
  split<;>omega
theorem aa9 {n:Nat} {b:Br} (h:jj n b) (hl:b.length≤2000) (k:Nat):Le 19 (atB b k):=by
 have h1:=ahe h k
 have h2:b.length*1000000000000000≤2000*1000000000000000:=amd _ hl
 exact Le.int (by omega) (by omega)
theorem Io {z:Int} (h:(z.natAbs:Int)≤MU):Le 19 z:=by
 have:=nA
 exact Le.int (by omega) (by omega)
theorem ac1 {v:ah} (hv:jW v) (f:Nat) (hf:(aU v).length<f) (b0:List aa) (a0 t0:List aa):
 (∃ lb,cI v (aU v)=some lb∧jj (ai v).length lb∧lb.length=(aU v).length∧iter f ((aU v,((aU v).length:Int),(0:Int),v.1,v.2.1,v.2.2.1,v.2.2.2.1,v.2.2.2.2.1,v.2.2.2.2.2.1,v.2.2.2.2.2.2.1,v.2.2.2.2.2.2.2.1,v.2.2.2.2.2.2.2.2,([]:List aa),([]:List bg),List.replicate (Int.toNat ((ai v).length:Int)) ((false,[]):aa),List.replicate (Int.toNat ((ai v).length:Int)) false,b0,a0,t0,()):jc) lg=some (Sum.inr (v.1,v.2.1,v.2.2.1,v.2.2.2.1,v.2.2.2.2.1,v.2.2.2.2.2.1,v.2.2.2.2.2.2.1,v.2.2.2.2.2.2.2.1,v.2.2.2.2.2.2.2.2,(lb.map (·.2)).map W,lb.map shW,(aG (ai v).length lb).map W,bU (ai v).length (lb.map (·.1)),b0,a0,t0,())))∨
 (cI v (aU v)=none∧∃ b,iter f ((aU v,((aU v).length:Int),(0:Int),v.1,v.2.1,v.2.2.1,v.2.2.2.1,v.2.2.2.2.1,v.2.2.2.2.2.1,v.2.2.2.2.2.2.1,v.2.2.2.2.2.2.2.1,v.2.2.2.2.2.2.2.2,([]:List aa),([]:List bg),List.replicate (Int.toNat ((ai v).length:Int)) ((false,[]):aa),List.replicate (Int.toNat ((ai v).length:Int)) false,b0,a0,t0,()):jc) lg=some (Sum.inl (1,b,()))):=by
 have hrn:0<(ai v).length∧(ai v).length≤20:=hv.rn
 have hln:0<(aU v).length∧(aU v).length≤500:=hv.ln
 refine aZ (Inv:=fun i X=>∃ lb,cI v ((aU v).take i)=some lb∧jj (ai v).length lb∧lb.length=i∧X=((aU v,((aU v).length:Int),(i:Int),v.1,v.2.1,v.2.2.1,v.2.2.2.1,v.2.2.2.2.1,v.2.2.2.2.2.1,v.2.2.2.2.2.2.1,v.2.2.2.2.2.2.2.1,v.2.2.2.2.2.2.2.2,(lb.map (·.2)).map W,lb.map shW,(aG (ai v).length lb).map W,bU (ai v).length (lb.map (·.1)),b0,a0,t0,()):jc)) (aU v).length
  (fun r=>(∃ lb,cI v (aU v)=some lb∧jj (ai v).length lb∧lb.length=(aU v).length∧r=some (Sum.inr (v.1,v.2.1,v.2.2.1,v.2.2.2.1,v.2.2.2.2.1,v.2.2.2.2.2.1,v.2.2.2.2.2.2.1,v.2.2.2.2.2.2.2.1,v.2.2.2.2.2.2.2.2,(lb.map (·.2)).map W,lb.map shW,(aG (ai v).length lb).map W,bU (ai v).length (lb.map (·.1)),b0,a0,t0,())))∨(cI v (aU v)=none∧∃ b,r=some (Sum.inl (1,b,())))) ?_ ?_ f 0 _ ⟨[],rfl,⟨by simp,by simp⟩,rfl, ?_⟩ (by omega) (by omega)
 ·rintro i _ again hi ⟨lb,h1,h2,h3,rfl⟩ ih
  unfold lg
  dsimp only
  have hx:(aU v)[i]? =some (aU v)[i]:=aC hi
  have hxm:=ak1 hi
  generalize (aU v)[i]=x at hx hxm
  have hxo:=hv.lines x hxm
  have hstep:=Ue hx h1
  rw[aD (by omega),bf,hx,amq]
  rw[FK v,aeq hv hxo,amq]
  dsimp only
  cases hn:CA v x with
  | none=>
   rw[hn] at hstep
   exact .inr ⟨Uc hstep,_,rfl⟩
  | some d=>
   rw[hn] at hstep
   obtain⟨hd1,hd2⟩:=Sa hn
   rw[amv,ajW,amD, ← hd1]
   obtain⟨k,hk1,hk2⟩:=Fy (ai v) x.2.2.2.2.2.2.2.2 (by omega) hv.asc
   obtain⟨k',hk'⟩:=amt.1 hxo.rate
   obtain rfl:=hk2 k' hk'
   obtain⟨rt,hrt,_⟩:=jX hk'
   have hkl:k<(ai v).length:=(akS.1 hrt).1
   have hrk:OY v x=k:=by unfold OY;rw[hk'];rfl
   rw[hk1,amq]
   dsimp only
   have hcm:(bU (ai v).length (lb.map (·.1)))[k]? =some ((lb.map (·.1)).contains k):=BY _ hkl
   have hbm:((aG (ai v).length lb).map W)[k]? =some (W (atB lb k)):=by rw[akT,fy _ hkl];rfl
   have hck:(decide (0≤(k:Int))&&decide ((k:Int)<(((aG (ai v).length lb).map W).length:Int)))=true:=by
    rw[ak5,cx];simp only[ajK,amI];omega
   rw[aH (cr (by simp;omega) (by simp;omega)),aH hck,akq,hbm,amq,dZ _ _ ((aa9 h2 (by omega) k).w (by omega)) ((Io hd2).w (by omega)),amq,aH hck,amq,aH (cr (by simp;omega) (by simp;omega)),aH (by rw[r0];simp only[ajK,amI];omega),hcm,amq,az (by omega) (by omega)]
   refine ih _ ⟨lb++[(k,d)],by rw[hstep,hrk];rfl,⟨?_, ?_⟩,by simp[h3], ?_⟩
   ·intro p hp
    rcases alh.1 hp with hp | hp
    ·exact h2.ix p hp
    ·rw[alx.1 hp];exact hkl
   ·intro p hp
    rcases alh.1 hp with hp | hp
    ·exact h2.am p hp
    ·rw[alx.1 hp];exact hd2
   ·dsimp only
    rw[← List.map_set,L9,FG]
    simp only[ald,alf,alg,shW]
    rfl
 ·rintro _ again ⟨lb,h1,h2,h3,rfl⟩
  unfold lg
  dsimp only
  rw[aE (by omega)]
  rw[alN (alZ _)] at h1
  exact .inl ⟨lb,h1,h2,h3,rfl⟩
 ·simp only[alg,ac0,aeN,akq]
  rfl
theorem Ww {v:ah} (hv:jW v):
 (∃ lb,cI v (aU v)=some lb∧jj (ai v).length lb∧lb.length=(aU v).length∧bh (aG (ai v).length lb)=true∧nW (v,[],[],[],[],[],[],[],())=some (0,Bx v (lb.map (·.2)) (aG (ai v).length lb) (aG (ai v).length lb) lb [] (bU (ai v).length (lb.map (·.1))) [],()))∨
 ((cI v (aU v)=none∨∃ lb,cI v (aU v)=some lb∧bh (aG (ai v).length lb)=false)∧∃ b,nW (v,[],[],[],[],[],[],[],())=some (1,b,())):=by
 have hrn:0<(ai v).length∧(ai v).length≤20:=hv.rn
 have hrn':=hv.rn
 unfold nW
 dsimp only
 rw[aH (by simp only[ajK,amI];omega),aH (by simp only[ajK,amI];omega)]
 rcases ac1 hv ((aU v).length+(Int.natAbs (((aU v).length:Int))+(Int.natAbs (0:Int)+(v.1.length+(v.2.1.length+(v.2.2.1.natAbs+(v.2.2.2.1.natAbs+(v.2.2.2.2.1.natAbs+(v.2.2.2.2.2.2.1.length+(v.2.2.2.2.2.2.2.1.length+(v.2.2.2.2.2.2.2.2.length+(List.length ([]:List aa)+(List.length ([]:List bg)+(List.length (List.replicate (Int.toNat ((ai v).length:Int)) ((false,[]):aa))+(List.length (List.replicate (Int.toNat ((ai v).length:Int)) false)+(List.length ([]:List aa)+(List.length ([]:List aa)+(List.length ([]:List aa)+2)))))))))))))))))) (by omega) [] [] [] with ⟨lb,h1,h2,h3,e⟩ | ⟨h1,b,e⟩
 ·rw[e,aF]
  dsimp only
  have hbl:=cx (ai v).length lb
  rw[contains_eq _ (by rw[hbl];omega),amq]
  dsimp only
  cases ha:bh (aG (ai v).length lb) with
  | true=>
   rw[ajW,amD,YG _ (by rw[ak5,hbl];omega),amq]
   exact .inl ⟨lb,h1,h2,h3,ha,rfl⟩
  | false=>exact .inr ⟨.inr ⟨lb,h1,ha⟩,_,rfl⟩
 ·rw[e,dR]
  exact .inr ⟨.inl h1,b,rfl⟩
end Go.Md
namespace Go.Md
open Go.Dn
def afb (v5:((List Int)×Bool×Bool×(List Int)×Bys×Bys×Int×Int×Int×Bool×(List aB)×(List au)×(List ax)×(List aa)×(List aa)×(List aa)×(List bg)×(List aa)×(List Bool)×(List aa)×Unit)):Option (Int×(ah×(List aa)×(List aa)×(List aa)×(List bg)×(List aa)×(List Bool)×(List aa)×Unit)×Unit):=
 bif !v5.2.1 then
  Option.bind (gm ((v5.2.2.2.2.1,v5.2.2.2.2.2.1,v5.2.2.2.2.2.2.1,v5.2.2.2.2.2.2.2.1,v5.2.2.2.2.2.2.2.2.1,v5.2.2.2.2.2.2.2.2.2.1,v5.2.2.2.2.2.2.2.2.2.2.1,v5.2.2.2.2.2.2.2.2.2.2.2.1,v5.2.2.2.2.2.2.2.2.2.2.2.2.1),v5.2.2.2.2.2.2.2.2.2.2.2.2.2.2.1,v5.2.2.2.2.2.2.2.2.2.2.2.2.2.1,v5.2.2.2.2.2.2.2.2.2.2.2.2.2.2.2.1,v5.2.2.2.2.2.2.2.2.2.2.2.2.2.2.2.2.1,v5.2.2.2.2.2.2.2.2.2.2.2.2.2.2.2.2.2.1,v5.2.2.2.2.2.2.2.2.2.2.2.2.2.2.2.2.2.2.1,v5.2.2.2.2.2.2.2.2.2.2.2.2.2.2.2.2.2.2.2.1,()) 0 (v5.2.2.1,v5.2.2.2.1)) fun r6=>
  chk (decide (0≤(0:Int))&&decide ((0:Int)<(r6.1.2.2.2.2.2.2.1.length:Int))) <|
  Option.bind (r6.1.2.2.2.2.2.2.1[0]?) fun y7=>
  bif y7 then
   chk (decide (0≤(0:Int))&&decide ((0:Int)<(r6.1.2.2.2.2.2.2.1.length:Int))) <|
   Option.bind (r6.1.2.2.2.2.2.2.1[0]?) fun _=>
   some (0,(r6.1.1,r6.1.2.1,r6.1.2.2.1,r6.1.2.2.2.1,r6.1.2.2.2.2.1,r6.1.2.2.2.2.2.1,List.set r6.1.2.2.2.2.2.2.1 0 true,r6.1.2.2.2.2.2.2.2.1,()),())
  else
   Option.bind (aS (v5.2.2.1,v5.2.2.2.1)) fun r9=>
   chk (decide (0≤(0:Int))&&decide ((0:Int)<(r6.1.2.2.2.2.2.2.1.length:Int))) <|
   Option.bind (r6.1.2.2.2.2.2.2.1[0]?) fun _=>
   some (0,(r6.1.1,r6.1.2.1,r6.1.2.2.1,r6.1.2.2.2.1,r6.1.2.2.2.2.1,r6.1.2.2.2.2.2.1,List.set r6.1.2.2.2.2.2.2.1 0 (r9.1 != 0),r6.1.2.2.2.2.2.2.2.1,()),())
 else
  Option.bind (jE v5.1 ()) fun r11=>
  bif r11.1 then
   some (2,((v5.2.2.2.2.1,v5.2.2.2.2.2.1,v5.2.2.2.2.2.2.1,v5.2.2.2.2.2.2.2.1,v5.2.2.2.2.2.2.2.2.1,v5.2.2.2.2.2.2.2.2.2.1,v5.2.2.2.2.2.2.2.2.2.2.1,v5.2.2.2.2.2.2.2.2.2.2.2.1,v5.2.2.2.2.2.2.2.2.2.2.2.2.1),v5.2.2.2.2.2.2.2.2.2.2.2.2.2.2.1,v5.2.2.2.2.2.2.2.2.2.2.2.2.2.1,v5.2.2.2.2.2.2.2.2.2.2.2.2.2.2.2.1,v5.2.2.2.2.2.2.2.2.2.2.2.2.2.2.2.2.1,v5.2.2.2.2.2.2.2.2.2.2.2.2.2.2.2.2.2.1,v5.2.2.2.2.2.2.2.2.2.2.2.2.2.2.2.2.2.2.1,v5.2.2.2.2.2.2.2.2.2.2.2.2.2.2.2.2.2.2.2.1,()),())
  else
   Option.bind (rP (v5.2.2.1,v5.2.2.2.1) v5.2.2.2.2.2.2.2.1) fun r12=>
   Option.bind (vw r12.1 v5.1) fun r13=>
   bif r13.2.1 != 0 then
    some (r13.2.1,((v5.2.2.2.2.1,v5.2.2.2.2.2.1,v5.2.2.2.2.2.2.1,v5.2.2.2.2.2.2.2.1,v5.2.2.2.2.2.2.2.2.1,v5.2.2.2.2.2.2.2.2.2.1,v5.2.2.2.2.2.2.2.2.2.2.1,v5.2.2.2.2.2.2.2.2.2.2.2.1,v5.2.2.2.2.2.2.2.2.2.2.2.2.1),v5.2.2.2.2.2.2.2.2.2.2.2.2.2.2.1,v5.2.2.2.2.2.2.2.2.2.2.2.2.2.1,v5.2.2.2.2.2.2.2.2.2.2.2.2.2.2.2.1,v5.2.2.2.2.2.2.2.2.2.2.2.2.2.2.2.2.1,v5.2.2.2.2.2.2.2.2.2.2.2.2.2.2.2.2.2.1,v5.2.2.2.2.2.2.2.2.2.2.2.2.2.2.2.2.2.2.1,v5.2.2.2.2.2.2.2.2.2.2.2.2.2.2.2.2.2.2.2.1,()),())
   else
    aO (β:=(Int×(ah×(List aa)×(List aa)×(List aa)×(List bg)×(List aa)×(List Bool)×(List aa)×Unit)×Unit)) (γ:=(Bys×Bys×Int×Int×Int×Bool×(List aB)×(List au)×(List ax)×(List aa)×(List aa)×(List aa)×(List bg)×(List aa)×(List Bool)×(List aa)×Unit)) (
     iter (X:=jb) (β:=oc) (r13.1.length+(Int.natAbs ((r13.1.length:Int))+(Int.natAbs (0:Int)+(v5.2.2.2.2.1.length+(v5.2.2.2.2.2.1.length+(v5.2.2.2.2.2.2.1.natAbs+(v5.2.2.2.2.2.2.2.1.natAbs+(v5.2.2.2.2.2.2.2.2.1.natAbs+(v5.2.2.2.2.2.2.2.2.2.2.1.length+(v5.2.2.2.2.2.2.2.2.2.2.2.1.length+(v5.2.2.2.2.2.2.2.2.2.2.2.2.1.length+(v5.2.2.2.2.2.2.2.2.2.2.2.2.2.2.1.length+(v5.2.2.2.2.2.2.2.2.2.2.2.2.2.1.length+(v5.2.2.2.2.2.2.2.2.2.2.2.2.2.2.2.1.length+(v5.2.2.2.2.2.2.2.2.2.2.2.2.2.2.2.2.1.length+(v5.2.2.2.2.2.2.2.2.2.2.2.2.2.2.2.2.2.1.length+(v5.2.2.2.2.2.2.2.2.2.2.2.2.2.2.2.2.2.2.1.length+(v5.2.2.2.2.2.2.2.2.2.2.2.2.2.2.2.2.2.2.2.1.length+2)))))))))))))))))) (r13.1,(r13.1.length:Int),0,v5.2.2.2.2.1,v5.2.2.2.2.2.1,v5.2.2.2.2.2.2.1,v5.2.2.2.2.2.2.2.1,v5.2.2.2.2.2.2.2.2.1,v5.2.2.2.2.2.2.2.2.2.1,v5.2.2.2.2.2.2.2.2.2.2.1,v5.2.2.2.2.2.2.2.2.2.2.2.1,v5.2.2.2.2.2.2.2.2.2.2.2.2.1,v5.2.2.2.2.2.2.2.2.2.2.2.2.2.2.1,v5.2.2.2.2.2.2.2.2.2.2.2.2.2.1,v5.2.2.2.2.2.2.2.2.2.2.2.2.2.2.2.1,v5.2.2.2.2.2.2.2.2.2.2.2.2.2.2.2.2.1,v5.2.2.2.2.2.2.2.2.2.2.2.2.2.2.2.2.2.1,v5.2.2.2.2.2.2.2.2.2.2.2.2.2.2.2.2.2.2.1,v5.2.2.2.2.2.2.2.2.2.2.2.2.2.2.2.2.2.2.2.1,()) (k9)) fun v19=>
    some (0,((v19.1,v19.2.1,v19.2.2.1,v19.2.2.2.1,v19.2.2.2.2.1,v19.2.2.2.2.2.1,v19.2.2.2.2.2.2.1,v19.2.2.2.2.2.2.2.1,v19.2.2.2.2.2.2.2.2.1),v19.2.2.2.2.2.2.2.2.2.1,v19.2.2.2.2.2.2.2.2.2.2.1,v19.2.2.2.2.2.2.2.2.2.2.2.1,v19.2.2.2.2.2.2.2.2.2.2.2.2.1,v19.2.2.2.2.2.2.2.2.2.2.2.2.2.1,v19.2.2.2.2.2.2.2.2.2.2.2.2.2.2.1,v19.2.2.2.2.2.2.2.2.2.2.2.2.2.2.2.1,()),())
def Y8 (v8:(Int×Bool×Bool×Int×Int×Bys×Bool×(List Int)×Bys×Bys×Int×Int×Int×Bool×(List aB)×(List au)×(List ax)×(List aa)×(List aa)×(List aa)×(List bg)×(List aa)×(List Bool)×(List aa)×Unit)):Option (Int×(ah×(List aa)×(List aa)×(List aa)×(List bg)×(List aa)×(List Bool)×(List aa)×Unit)×Unit):=
 Option.bind (ou (v8.2.2.2.1,v8.2.2.2.2.1) (if v8.2.2.2.2.1>v8.2.2.2.2.2.2.2.2.2.2.2.1 then v8.2.2.2.2.1 else v8.2.2.2.2.2.2.2.2.2.2.2.1)) fun r9=>
 aO (β:=(Int×(ah×(List aa)×(List aa)×(List aa)×(List bg)×(List aa)×(List Bool)×(List aa)×Unit)×Unit)) (γ:=(Int×Bool×Bool×(List Int)×Bys×Bys×Int×Int×Int×Bool×(List aB)×(List au)×(List ax)×(List aa)×(List aa)×(List aa)×(List bg)×(List aa)×(List Bool)×(List aa)×Unit)) (
  bif v8.2.2.1 then
   Option.bind (rj (v8.2.2.2.2.2.2.2.2.1,v8.2.2.2.2.2.2.2.2.2.1,v8.2.2.2.2.2.2.2.2.2.2.1,v8.2.2.2.2.2.2.2.2.2.2.2.1,v8.2.2.2.2.2.2.2.2.2.2.2.2.1,v8.2.2.2.2.2.2.2.2.2.2.2.2.2.1,v8.2.2.2.2.2.2.2.2.2.2.2.2.2.2.1,v8.2.2.2.2.2.2.2.2.2.2.2.2.2.2.2.1,v8.2.2.2.2.2.2.2.2.2.2.2.2.2.2.2.2.1) (v8.2.2.2.2.2.2.1,v8.2.2.2.2.2.2.2.1) (v8.2.2.2.1,v8.2.2.2.2.1)) fun r10=>
   some (Sum.inr (v8.1,v8.2.1,r10.1.1,r10.1.2,v8.2.2.2.2.2.2.2.2.1,v8.2.2.2.2.2.2.2.2.2.1,v8.2.2.2.2.2.2.2.2.2.2.1,v8.2.2.2.2.2.2.2.2.2.2.2.1,v8.2.2.2.2.2.2.2.2.2.2.2.2.1,v8.2.2.2.2.2.2.2.2.2.2.2.2.2.1,v8.2.2.2.2.2.2.2.2.2.2.2.2.2.2.1,v8.2.2.2.2.2.2.2.2.2.2.2.2.2.2.2.1,v8.2.2.2.2.2.2.2.2.2.2.2.2.2.2.2.2.1,v8.2.2.2.2.2.2.2.2.2.2.2.2.2.2.2.2.2.1,v8.2.2.2.2.2.2.2.2.2.2.2.2.2.2.2.2.2.2.1,v8.2.2.2.2.2.2.2.2.2.2.2.2.2.2.2.2.2.2.2.1,v8.2.2.2.2.2.2.2.2.2.2.2.2.2.2.2.2.2.2.2.2.1,v8.2.2.2.2.2.2.2.2.2.2.2.2.2.2.2.2.2.2.2.2.2.1,v8.2.2.2.2.2.2.2.2.2.2.2.2.2.2.2.2.2.2.2.2.2.2.1,v8.2.2.2.2.2.2.2.2.2.2.2.2.2.2.2.2.2.2.2.2.2.2.2.1,()))
  else
   some (Sum.inr (v8.1,v8.2.1,r9.1.1,r9.1.2,v8.2.2.2.2.2.2.2.2.1,v8.2.2.2.2.2.2.2.2.2.1,v8.2.2.2.2.2.2.2.2.2.2.1,v8.2.2.2.2.2.2.2.2.2.2.2.1,v8.2.2.2.2.2.2.2.2.2.2.2.2.1,v8.2.2.2.2.2.2.2.2.2.2.2.2.2.1,v8.2.2.2.2.2.2.2.2.2.2.2.2.2.2.1,v8.2.2.2.2.2.2.2.2.2.2.2.2.2.2.2.1,v8.2.2.2.2.2.2.2.2.2.2.2.2.2.2.2.2.1,v8.2.2.2.2.2.2.2.2.2.2.2.2.2.2.2.2.2.1,v8.2.2.2.2.2.2.2.2.2.2.2.2.2.2.2.2.2.2.1,v8.2.2.2.2.2.2.2.2.2.2.2.2.2.2.2.2.2.2.2.1,v8.2.2.2.2.2.2.2.2.2.2.2.2.2.2.2.2.2.2.2.2.1,v8.2.2.2.2.2.2.2.2.2.2.2.2.2.2.2.2.2.2.2.2.2.1,v8.2.2.2.2.2.2.2.2.2.2.2.2.2.2.2.2.2.2.2.2.2.2.1,v8.2.2.2.2.2.2.2.2.2.2.2.2.2.2.2.2.2.2.2.2.2.2.2.1,()))) fun v11=>
 Option.bind (ke (v11.2.2.1,v11.2.2.2.1)) fun r12=>
 bif !r12.1 then
  some (1,((v11.2.2.2.2.1,v11.2.2.2.2.2.1,v11.2.2.2.2.2.2.1,v11.2.2.2.2.2.2.2.1,v11.2.2.2.2.2.2.2.2.1,v11.2.2.2.2.2.2.2.2.2.1,v11.2.2.2.2.2.2.2.2.2.2.1,v11.2.2.2.2.2.2.2.2.2.2.2.1,v11.2.2.2.2.2.2.2.2.2.2.2.2.1),v11.2.2.2.2.2.2.2.2.2.2.2.2.2.2.1,v11.2.2.2.2.2.2.2.2.2.2.2.2.2.1,v11.2.2.2.2.2.2.2.2.2.2.2.2.2.2.2.1,v11.2.2.2.2.2.2.2.2.2.2.2.2.2.2.2.2.1,v11.2.2.2.2.2.2.2.2.2.2.2.2.2.2.2.2.2.1,v11.2.2.2.2.2.2.2.2.2.2.2.2.2.2.2.2.2.2.1,v11.2.2.2.2.2.2.2.2.2.2.2.2.2.2.2.2.2.2.2.1,()),())
 else
  chk (decide (((v11.2.2.2.2.2.2.2.2.2.2.2.2.2.2.2.2.2.1.length)+1)*32≤140737488355328)&&decide ((v11.2.2.2.2.2.2.2.2.2.2.2.2.2.2.2.2.2.1.length)+1≤maxLen)) <|
  bif v11.2.1 then
   Option.bind (gm ((v11.2.2.2.2.1,v11.2.2.2.2.2.1,v11.2.2.2.2.2.2.1,v11.2.2.2.2.2.2.2.1,v11.2.2.2.2.2.2.2.2.1,v11.2.2.2.2.2.2.2.2.2.1,v11.2.2.2.2.2.2.2.2.2.2.1,v11.2.2.2.2.2.2.2.2.2.2.2.1,v11.2.2.2.2.2.2.2.2.2.2.2.2.1),v11.2.2.2.2.2.2.2.2.2.2.2.2.2.2.1,v11.2.2.2.2.2.2.2.2.2.2.2.2.2.1,v11.2.2.2.2.2.2.2.2.2.2.2.2.2.2.2.1,v11.2.2.2.2.2.2.2.2.2.2.2.2.2.2.2.2.1,v11.2.2.2.2.2.2.2.2.2.2.2.2.2.2.2.2.2.1++[(v11.2.2.1,v11.2.2.2.1)],v11.2.2.2.2.2.2.2.2.2.2.2.2.2.2.2.2.2.2.1,v11.2.2.2.2.2.2.2.2.2.2.2.2.2.2.2.2.2.2.2.1,()) v11.1 (v11.2.2.1,v11.2.2.2.1)) fun r13=>
   chk (decide (0≤v11.1)&&decide (v11.1<(r13.1.2.2.2.2.2.2.1.length:Int))) <|
   Option.bind (r13.1.2.2.2.2.2.2.1[v11.1.toNat]?) fun _=>
   Option.bind (b6 r13.1.2.2.2.1 ()) fun r15=>
   bif r15.1 then
    some (1,(r13.1.1,r13.1.2.1,r13.1.2.2.1,r13.1.2.2.2.1,r13.1.2.2.2.2.1,r13.1.2.2.2.2.2.1,List.set r13.1.2.2.2.2.2.2.1 v11.1.toNat true,r13.1.2.2.2.2.2.2.2.1,()),())
   else
    some (0,(r13.1.1,r13.1.2.1,r13.1.2.2.1,r13.1.2.2.2.1,r13.1.2.2.2.2.1,r13.1.2.2.2.2.2.1,List.set r13.1.2.2.2.2.2.2.1 v11.1.toNat true,r13.1.2.2.2.2.2.2.2.1,()),())
  else
   Option.bind (iH ((v11.2.2.2.2.1,v11.2.2.2.2.2.1,v11.2.2.2.2.2.2.1,v11.2.2.2.2.2.2.2.1,v11.2.2.2.2.2.2.2.2.1,v11.2.2.2.2.2.2.2.2.2.1,v11.2.2.2.2.2.2.2.2.2.2.1,v11.2.2.2.2.2.2.2.2.2.2.2.1,v11.2.2.2.2.2.2.2.2.2.2.2.2.1),v11.2.2.2.2.2.2.2.2.2.2.2.2.2.2.1,v11.2.2.2.2.2.2.2.2.2.2.2.2.2.1,v11.2.2.2.2.2.2.2.2.2.2.2.2.2.2.2.1,v11.2.2.2.2.2.2.2.2.2.2.2.2.2.2.2.2.1,v11.2.2.2.2.2.2.2.2.2.2.2.2.2.2.2.2.2.1++[(v11.2.2.1,v11.2.2.2.1)],v11.2.2.2.2.2.2.2.2.2.2.2.2.2.2.2.2.2.2.1,v11.2.2.2.2.2.2.2.2.2.2.2.2.2.2.2.2.2.2.2.1,()) (v11.2.2.1,v11.2.2.2.1)) fun r16=>
   bif r16.1 != 0 then
    some (r16.1,(r16.2.1.1,r16.2.1.2.1,r16.2.1.2.2.1,r16.2.1.2.2.2.1,r16.2.1.2.2.2.2.1,r16.2.1.2.2.2.2.2.1,r16.2.1.2.2.2.2.2.2.1,r16.2.1.2.2.2.2.2.2.2.1,()),())
   else
    Option.bind (b6 r16.2.1.2.2.2.1 ()) fun r17=>
    bif r17.1 then
     some (1,(r16.2.1.1,r16.2.1.2.1,r16.2.1.2.2.1,r16.2.1.2.2.2.1,r16.2.1.2.2.2.2.1,r16.2.1.2.2.2.2.2.1,r16.2.1.2.2.2.2.2.2.1,r16.2.1.2.2.2.2.2.2.2.1,()),())
    else
     some (0,(r16.2.1.1,r16.2.1.2.1,r16.2.1.2.2.1,r16.2.1.2.2.2.1,r16.2.1.2.2.2.2.1,r16.2.1.2.2.2.2.2.1,r16.2.1.2.2.2.2.2.2.1,r16.2.1.2.2.2.2.2.2.2.1,()),())
def G7 (v11:(Int×Bool×Bool×(List Int)×Bys×Bys×Int×Int×Int×Bool×(List aB)×(List au)×(List ax)×(List aa)×(List aa)×(List aa)×(List bg)×(List aa)×(List Bool)×(List aa)×Unit)):Option (Int×(ah×(List aa)×(List aa)×(List aa)×(List bg)×(List aa)×(List Bool)×(List aa)×Unit)×Unit):=
 Option.bind (ke (v11.2.2.1,v11.2.2.2.1)) fun r12=>
 bif !r12.1 then
  some (1,((v11.2.2.2.2.1,v11.2.2.2.2.2.1,v11.2.2.2.2.2.2.1,v11.2.2.2.2.2.2.2.1,v11.2.2.2.2.2.2.2.2.1,v11.2.2.2.2.2.2.2.2.2.1,v11.2.2.2.2.2.2.2.2.2.2.1,v11.2.2.2.2.2.2.2.2.2.2.2.1,v11.2.2.2.2.2.2.2.2.2.2.2.2.1),v11.2.2.2.2.2.2.2.2.2.2.2.2.2.2.1,v11.2.2.2.2.2.2.2.2.2.2.2.2.2.1,v11.2.2.2.2.2.2.2.2.2.2.2.2.2.2.2.1,v11.2.2.2.2.2.2.2.2.2.2.2.2.2.2.2.2.1,v11.2.2.2.2.2.2.2.2.2.2.2.2.2.2.2.2.2.1,v11.2.2.2.2.2.2.2.2.2.2.2.2.2.2.2.2.2.2.1,v11.2.2.2.2.2.2.2.2.2.2.2.2.2.2.2.2.2.2.2.1,()),())
 else
  chk (decide (((v11.2.2.2.2.2.2.2.2.2.2.2.2.2.2.2.2.2.1.length)+1)*32≤140737488355328)&&decide ((v11.2.2.2.2.2.2.2.2.2.2.2.2.2.2.2.2.2.1.length)+1≤maxLen)) <|
  bif v11.2.1 then
   Option.bind (gm ((v11.2.2.2.2.1,v11.2.2.2.2.2.1,v11.2.2.2.2.2.2.1,v11.2.2.2.2.2.2.2.1,v11.2.2.2.2.2.2.2.2.1,v11.2.2.2.2.2.2.2.2.2.1,v11.2.2.2.2.2.2.2.2.2.2.1,v11.2.2.2.2.2.2.2.2.2.2.2.1,v11.2.2.2.2.2.2.2.2.2.2.2.2.1),v11.2.2.2.2.2.2.2.2.2.2.2.2.2.2.1,v11.2.2.2.2.2.2.2.2.2.2.2.2.2.1,v11.2.2.2.2.2.2.2.2.2.2.2.2.2.2.2.1,v11.2.2.2.2.2.2.2.2.2.2.2.2.2.2.2.2.1,v11.2.2.2.2.2.2.2.2.2.2.2.2.2.2.2.2.2.1++[(v11.2.2.1,v11.2.2.2.1)],v11.2.2.2.2.2.2.2.2.2.2.2.2.2.2.2.2.2.2.1,v11.2.2.2.2.2.2.2.2.2.2.2.2.2.2.2.2.2.2.2.1,()) v11.1 (v11.2.2.1,v11.2.2.2.1)) fun r13=>
   chk (decide (0≤v11.1)&&decide (v11.1<(r13.1.2.2.2.2.2.2.1.length:Int))) <|
   Option.bind (r13.1.2.2.2.2.2.2.1[v11.1.toNat]?) fun _=>
   Option.bind (b6 r13.1.2.2.2.1 ()) fun r15=>
   bif r15.1 then
    some (1,(r13.1.1,r13.1.2.1,r13.1.2.2.1,r13.1.2.2.2.1,r13.1.2.2.2.2.1,r13.1.2.2.2.2.2.1,List.set r13.1.2.2.2.2.2.2.1 v11.1.toNat true,r13.1.2.2.2.2.2.2.2.1,()),())
   else
    some (0,(r13.1.1,r13.1.2.1,r13.1.2.2.1,r13.1.2.2.2.1,r13.1.2.2.2.2.1,r13.1.2.2.2.2.2.1,List.set r13.1.2.2.2.2.2.2.1 v11.1.toNat true,r13.1.2.2.2.2.2.2.2.1,()),())
  else
   Option.bind (iH ((v11.2.2.2.2.1,v11.2.2.2.2.2.1,v11.2.2.2.2.2.2.1,v11.2.2.2.2.2.2.2.1,v11.2.2.2.2.2.2.2.2.1,v11.2.2.2.2.2.2.2.2.2.1,v11.2.2.2.2.2.2.2.2.2.2.1,v11.2.2.2.2.2.2.2.2.2.2.2.1,v11.2.2.2.2.2.2.2.2.2.2.2.2.1),v11.2.2.2.2.2.2.2.2.2.2.2.2.2.2.1,v11.2.2.2.2.2.2.2.2.2.2.2.2.2.1,v11.2.2.2.2.2.2.2.2.2.2.2.2.2.2.2.1,v11.2.2.2.2.2.2.2.2.2.2.2.2.2.2.2.2.1,v11.2.2.2.2.2.2.2.2.2.2.2.2.2.2.2.2.2.1++[(v11.2.2.1,v11.2.2.2.1)],v11.2.2.2.2.2.2.2.2.2.2.2.2.2.2.2.2.2.2.1,v11.2.2.2.2.2.2.2.2.2.2.2.2.2.2.2.2.2.2.2.1,()) (v11.2.2.1,v11.2.2.2.1)) fun r16=>
   bif r16.1 != 0 then
    some (r16.1,(r16.2.1.1,r16.2.1.2.1,r16.2.1.2.2.1,r16.2.1.2.2.2.1,r16.2.1.2.2.2.2.1,r16.2.1.2.2.2.2.2.1,r16.2.1.2.2.2.2.2.2.1,r16.2.1.2.2.2.2.2.2.2.1,()),())
   else
    Option.bind (b6 r16.2.1.2.2.2.1 ()) fun r17=>
    bif r17.1 then
     some (1,(r16.2.1.1,r16.2.1.2.1,r16.2.1.2.2.1,r16.2.1.2.2.2.1,r16.2.1.2.2.2.2.1,r16.2.1.2.2.2.2.2.1,r16.2.1.2.2.2.2.2.2.1,r16.2.1.2.2.2.2.2.2.2.1,()),())
    else
     some (0,(r16.2.1.1,r16.2.1.2.1,r16.2.1.2.2.1,r16.2.1.2.2.2.1,r16.2.1.2.2.2.2.1,r16.2.1.2.2.2.2.2.1,r16.2.1.2.2.2.2.2.2.1,r16.2.1.2.2.2.2.2.2.2.1,()),())
theorem Vv (z:Int) (h:z.natAbs<4294967296 ^ 99):BP (W z)=some (W (z.natAbs:Int),()):=by
 unfold BP
 have hl:=aio h
 rw[kQ _ (W z).2 (eW _) (by omega)]
 simp only[amq,ajP,amO]
 congr 3
 simp only[W,eY]
theorem Xn (zs:List Nat) (hl:zs.length≤1000):jE (wI zs) ()=some (zs.any fun z=>decide (1000000000<z),()):=by
 unfold jE uF
 have loop:∀ f,zs.length<f→((zs.any fun z=>decide (1000000000<z))=false∧iter f ((wI zs,(),(zs.length:Int),(0:Int),()):jD) jC=some (Sum.inr ()))∨
  ((zs.any fun z=>decide (1000000000<z))=true∧∃ j:Nat,iter f ((wI zs,(),(zs.length:Int),(0:Int),()):jD) jC=some (Sum.inl ((j:Int),()))):=by
  intro f hf
  refine aZ (Inv:=fun i X=>X=(wI zs,(),(zs.length:Int),(i:Int),())∧((zs.take i).any fun z=>decide (1000000000<z))=false) zs.length (fun r=>((zs.any fun z=>decide (1000000000<z))=false∧r=some (Sum.inr ()))∨((zs.any fun z=>decide (1000000000<z))=true∧∃ j:Nat,r=some (Sum.inl ((j:Int),())))) ?_ ?_ f 0 _ ⟨rfl,rfl⟩ (by omega) (by omega)
  ·rintro i _ again hi ⟨rfl,hal⟩ ih
   unfold jC
   dsimp only
   have hz:zs[i]? =some zs[i]:=aC hi
   generalize zs[i]=z at hz
   rw[aD (by omega),bf,ND hz,amq]
   unfold wE
   rw[amq]
   dsimp only
   by_cases h:(z:Int)>1000000000
   ·rw[aD h]
    refine .inr ⟨?_,i,rfl⟩
    rw[akv]
    exact⟨z,alr hz,by rw[amI];omega⟩
   ·rw[aE h,az (by omega) (by omega)]
    refine ih _ ⟨rfl, ?_⟩
    rw[alK,hz,List.any_append,hal]
    simp;omega
  ·rintro _ again ⟨rfl,hal⟩
   unfold jC
   dsimp only
   rw[alN (alZ _)] at hal
   rw[aE (by omega)]
   exact .inl ⟨hal,rfl⟩
 rw[qL]
 rcases loop (zs.length+(Int.natAbs ((zs.length:Int))+(Int.natAbs (0:Int)+2))) (by omega) with ⟨h,e⟩ | ⟨h,j,e⟩
 ·rw[e,aF,amq,h];rfl
 ·rw[e,dR,amq,h]
  dsimp only
  rw[amH (show (j:Int)≥0 by omega)]
theorem jj.snoc {n:Nat} {b:Br} (h:jj n b) {k:Nat} {d:Int} (hk:k<n) (hd:(d.natAbs:Int)≤MU):jj n (b++[(k,d)]):=by
 refine⟨fun p hp=> ?_,fun p hp=> ?_⟩
 ·rcases alh.1 hp with hp | hp
  ·exact h.ix p hp
  ·rw[alx.1 hp];exact hk
 ·rcases alh.1 hp with hp | hp
  ·exact h.am p hp
  ·rw[alx.1 hp];exact hd
theorem UL (v:ah) (nets lines:List Int) {n:Nat} (hn:n≤20) {sh:Br} (hsh:jj n sh) (hl:sh.length≤1999) (am:List Int) (has:List Bool) (tx:List Int) {k:Nat} (hk:k<n) {d:Int} (hd:(d.natAbs:Int)≤MU):
 gm (Bx v nets lines (aG n sh) sh am has tx) (k:Int) (W d)=some (Bx v nets lines (aG n (sh++[(k,d)])) (sh++[(k,d)]) am has tx,()):=by
 unfold gm Bx
 dsimp only
 have hbm:((aG n sh).map W)[k]? =some (W (atB sh k)):=by rw[akT,fy _ hk];rfl
 have hck:(decide (0≤(k:Int))&&decide ((k:Int)<(((aG n sh).map W).length:Int)))=true:=by
  rw[ak5,cx];simp only[ajK,amI];omega
 rw[aH hck,akq,hbm,amq,dZ _ _ ((aa9 hsh (by omega) k).w (by omega)) ((Io hd).w (by omega)),amq,aH hck,amq,aH (cr (by simp;omega) (by simp;omega))]
 dsimp only
 rw[← List.map_set,L9,ald]
 rfl
theorem aew {v:ah} {lines:List Int} (hl:lines.length≤20) (hal:bh lines=true) (a:aa) (N L B:List aa) (S:List bg) (A:List aa) (H:List Bool) (T:List aa) (f:Nat) (hf:lines.length<f):
 iter f (([],false,lines.map W,(lines.length:Int),(0:Int),a.1,a.2,v.1,v.2.1,v.2.2.1,v.2.2.2.1,v.2.2.2.2.1,v.2.2.2.2.2.1,v.2.2.2.2.2.2.1,v.2.2.2.2.2.2.2.1,v.2.2.2.2.2.2.2.2,N,L,B,S,A,H,T,()):lW) oP=
  some (Sum.inr (wI (lines.map Int.natAbs), !(lines.all fun b=>b==0),a.1,a.2,v.1,v.2.1,v.2.2.1,v.2.2.2.1,v.2.2.2.2.1,v.2.2.2.2.2.1,v.2.2.2.2.2.2.1,v.2.2.2.2.2.2.2.1,v.2.2.2.2.2.2.2.2,N,L,B,S,A,H,T,())):=by
 refine aZ (Inv:=fun i X=>X=((wI ((lines.take i).map Int.natAbs), !((lines.take i).all fun b=>b==0),lines.map W,(lines.length:Int),(i:Int),a.1,a.2,v.1,v.2.1,v.2.2.1,v.2.2.2.1,v.2.2.2.2.1,v.2.2.2.2.2.1,v.2.2.2.2.2.2.1,v.2.2.2.2.2.2.2.1,v.2.2.2.2.2.2.2.2,N,L,B,S,A,H,T,()):lW)) lines.length
  (fun r=>r=some (Sum.inr (wI (lines.map Int.natAbs), !(lines.all fun b=>b==0),a.1,a.2,v.1,v.2.1,v.2.2.1,v.2.2.2.1,v.2.2.2.2.1,v.2.2.2.2.2.1,v.2.2.2.2.2.2.1,v.2.2.2.2.2.2.2.1,v.2.2.2.2.2.2.2.2,N,L,B,S,A,H,T,()))) ?_ ?_ f 0 _ rfl (by omega) (by omega)
 ·rintro i _ again hi rfl ih
  unfold oP
  dsimp only
  have hz:lines[i]? =some lines[i]:=aC hi
  have hzm:ic lines[i]=true:=akt.1 hal _ (ak1 hi)
  generalize lines[i]=z at hz hzm
  have hzb:(z.natAbs:Int)≤MU:=by unfold ic at hzm;exact amV hzm
  have hMU:=nA
  have hw:=Io hzb
  rw[aD (by omega),bf,akT,hz,amx,amq,Vv _ (hw.w (by omega)),amq]
  dsimp only
  rw[uK _ _ (by omega) (by omega),amq,amQ (by omega)]
  dsimp only
  rw[aH (cr (by rw[qL];simp;omega) (by rw[qL];simp;omega)),az (by omega) (by omega)]
  have e1:wI ((lines.take i).map Int.natAbs)++[(z.natAbs:Int)]=wI ((lines.take (i+1)).map Int.natAbs):=by
   rw[alK,hz,ald]
   unfold wI
   rw[ald]
   rfl
  have e2:((lines.take (i+1)).all fun b=>b==0)=(((lines.take i).all fun b=>b==0)&&(z==0)):=by
   rw[alK,hz,List.all_append];simp
  have:=ih _ rfl
  rw[← e1,e2] at this
  cases hx:((lines.take i).all fun b=>b==0) with
  | false=>rw[hx] at this;exact this
  | true=>
   rw[hx,aj0] at this
   rw[ajW,amD]
   have e3:decide ((z.natAbs:Int)>0)= !(z==0):=by
    by_cases h:z=0
    ·subst h;rfl
    ·rw[amH (by omega),show (z==0)=false by simpa using h];rfl
   rw[e3];exact this
 ·rintro _ again rfl
  unfold oP
  dsimp only
  rw[aE (by omega),alN (alZ _)]
theorem agf {v:ah} {nets lines am tx:List Int} {n:Nat} (hn:n≤20) {sh:Br} (hsh:jj n sh) (hl:sh.length≤1900) (fl:List Nat) {xs:List Int} {pl:Int} (hxl:xs.length=n) (hxs:∀ x∈xs,(x.natAbs:Int)≤MU) (f:Nat) (hf:xs.length<f):
 iter f ((xs.map (fun x=>(x,pl)),(xs.length:Int),(0:Int),v.1,v.2.1,v.2.2.1,v.2.2.2.1,v.2.2.2.2.1,v.2.2.2.2.2.1,v.2.2.2.2.2.2.1,v.2.2.2.2.2.2.2.1,v.2.2.2.2.2.2.2.2,nets.map W,lines.map W,(aG n sh).map W,sh.map shW,am.map W,bU n fl,tx.map W,()):jb) k9=
  some (Sum.inr (v.1,v.2.1,v.2.2.1,v.2.2.2.1,v.2.2.2.2.1,v.2.2.2.2.2.1,v.2.2.2.2.2.2.1,v.2.2.2.2.2.2.2.1,v.2.2.2.2.2.2.2.2,nets.map W,lines.map W,(aG n (sh++dG 0 xs)).map W,(sh++dG 0 xs).map shW,am.map W,bU n (fl++(dG 0 xs).map (·.1)),tx.map W,())):=by
 have nz_snoc:∀ (l:List Int) (k:Nat) (x:Int),dG k (l++[x])=dG k l++(if x=0 then [] else [(k+l.length,x)]):=by
  intro l
  induction l with
  | nil=>intro k x;simp[dG]
  | cons y l ih=>
   intro k x
   simp only[aky,dG,ih (k+1) x,ak3]
   rw[show k+1+l.length=k+(l.length+1) by omega]
   split<;>simp
 have nz_len:∀ (l:List Int) (k:Nat),(dG k l).length≤l.length:=by
  intro l
  induction l with
  | nil=>intro k;simp[dG]
  | cons y l ih=>
   intro k
   have:=ih (k+1)
   simp only[dG]
   split<;>simp<;>omega
 refine aZ (Inv:=fun i X=>jj n (sh++dG 0 (xs.take i))∧X=((xs.map (fun x=>(x,pl)),(xs.length:Int),(i:Int),v.1,v.2.1,v.2.2.1,v.2.2.2.1,v.2.2.2.2.1,v.2.2.2.2.2.1,v.2.2.2.2.2.2.1,v.2.2.2.2.2.2.2.1,v.2.2.2.2.2.2.2.2,nets.map W,lines.map W,(aG n (sh++dG 0 (xs.take i))).map W,(sh++dG 0 (xs.take i)).map shW,am.map W,bU n (fl++(dG 0 (xs.take i)).map (·.1)),tx.map W,()):jb)) xs.length
  (fun r=>r=some (Sum.inr (v.1,v.2.1,v.2.2.1,v.2.2.2.1,v.2.2.2.2.1,v.2.2.2.2.2.1,v.2.2.2.2.2.2.1,v.2.2.2.2.2.2.2.1,v.2.2.2.2.2.2.2.2,nets.map W,lines.map W,(aG n (sh++dG 0 xs)).map W,(sh++dG 0 xs).map shW,am.map W,bU n (fl++(dG 0 xs).map (·.1)),tx.map W,()))) ?_ ?_ f 0 _ ⟨by simpa [dG] using hsh,by simp[dG]⟩ (by omega) (by omega)
 ·rintro i _ again hi ⟨hok,rfl⟩ ih
  unfold k9
  dsimp only
  have hx:xs[i]? =some xs[i]:=aC hi
  have hxm:=hxs _ (ak1 hi)
  generalize xs[i]=x at hx hxm
  have hMU:=nA
  have hbl:=nz_len (xs.take i) 0
  rw[alc] at hbl
  have hsl:(sh++dG 0 (xs.take i)).length≤1999:=by rw[ak2];omega
  have hnext:=nz_snoc (xs.take i) 0 x
  have htk:xs.take (i+1)=xs.take i++[x]:=by rw[alK,hx];rfl
  have hlt:(xs.take i).length=i:=by rw[alc];omega
  rw[← htk,hlt,amk] at hnext
  rw[aD (by omega),bf,akT,hx,amx,amq]
  dsimp only
  have hin:i<n:=by omega
  by_cases h0:x=0
  ·rw[amQ h0,akx] at hnext
   rw[show (x != 0)=false by simpa using h0,amD,az (by omega) (by omega)]
   refine ih _ ⟨by rw[hnext];exact hok,by rw[hnext];rfl⟩
  ·rw[amP h0] at hnext
   have hb:=UL v nets lines hn hok hsl am (bU n (fl++(dG 0 (xs.take i)).map (·.1))) tx hin hxm
   unfold Bx at hb
   rw[show (x != 0)=true by simpa using h0,amE,gq _ (by omega) (by omega),amq]
   dsimp only
   rw[FK v,hb,amq]
   dsimp only
   rw[aH (by rw[r0];simp only[ajK,amI];omega),akq,BY _ hin,amq,az (by omega) (by omega),FG]
   refine ih _ ⟨by rw[hnext, ← akw];exact hok.snoc hin hxm, ?_⟩
   rw[hnext]
   simp only[akw,ald,alf,alg]
   rfl
 ·rintro _ again ⟨_,rfl⟩
  unfold k9
  dsimp only
  rw[aE (by omega),alN (alZ _)]
end Go.Md
namespace Go.Md
open Go.Dn
theorem adj {way:Int} {b:Nat} (hb:0<b):rnd way 0 b=0:=by
 unfold rnd Gm
 simp only[Int.natAbs_zero,Nat.zero_div,Nat.zero_mod,Int.lt_irrefl,amJ,ajV,aj0,Bool.false_and,Nat.lt_irrefl]
 have h1:¬ b≤2*0:=by omega
 have h2:¬ (b<2*0∨(2*0=b∧0 % 2=1)):=by omega
 simp[h1]
def RW (d:aj):aj:=(-d.1,d.2)
def fW (x:ax):ax:=(x.1,if x.1=true then x.2.1 else RW x.2.1,x.2.2)
def rK (x:au):au:=(x.1,x.2.1,x.2.2.1,RW x.2.2.2.1,x.2.2.2.2.1,x.2.2.2.2.2.1,x.2.2.2.2.2.2.1,x.2.2.2.2.2.2.2.1.map fW,x.2.2.2.2.2.2.2.2)
def Kb (v:ah) (number:Bys) (day:Int):ah:=
 (number,v.2.1,day,vPl v,dQ v,lM v,ai v,(aU v).map rK,(bF v).map fW)
theorem Lv:∀ {l:List Int},(l.all fun b=>b==0)=false→0<(l.map Int.natAbs).sum
 | [],h=>by simp at h
 | x::l,h=>by
  by_cases hx:x=0
  ·subst hx
   have:=Lv (l:=l) (by simpa using h)
   simp only[alf,alI];omega
  ·simp only[alf,alI];omega
theorem afo {v:ah} (hv:jW v) (k:Nat):aY (nF v k):=by
 unfold nF
 rw[akK]
 cases h:(ai v)[k]? with
 | none=>exact⟨by simp,by simp,by simp⟩
 | some r=>
  have:=hv.rates r (alr h)
  unfold inR at this
  rw[amI] at this
  exact this.1
end Go.Md
namespace Go.Md
open Go.Dn
theorem acp {n k:Nat} {fl:List Nat} (h:fl.contains k=true):bU n (fl++[k])=bU n fl:=by
 unfold bU
 apply ale
 intro i _
 by_cases e:i=k
 ·subst e;rw[h];simp
 ·simp[e]
theorem ahG {n k:Nat} {fl:List Nat} (hk:k<n) (h:fl.contains k=false):(bU n fl).set k false=bU n fl:=by
 apply akH
 intro i
 by_cases e:k=i
 ·subst e
  rw[akY (by rw[r0];exact hk),BY _ hk,h]
 ·rw[akX e]
theorem aeS (lines:List Int):((lines.map Int.natAbs).any fun z=>decide (1000000000<z))=lines.any fun b=>decide (MW<b.natAbs):=by
 rw[List.any_map];rfl
theorem gp {d:Int}:ic d=true↔(d.natAbs:Int)≤MU:=by unfold ic;rw[amI]
theorem ahd {v:ah} (hv:jW v) (nets am tx:List Int) {n:Nat} (hn0:0<n) (hn:n≤20) {lines:List Int} (hll:lines.length=n) (hal:bh lines=true) {sh:Br} (hsh:jj n sh) (hl:sh.length≤1900) (fl:List Nat) {d:Int} (hd:(d.natAbs:Int)≤MU):
 (∃ p g,qW none d lines= .inr (d,p,g)∧jj n (sh++p)∧p.length≤20∧iH (Bx v nets lines (aG n sh) sh am (bU n fl) tx) (W d)=some (0,Bx v nets lines (aG n (sh++p)) (sh++p) am (bU n (fl++g)) tx,()))∨
 (qW none d lines= .inl 2∧∃ b,iH (Bx v nets lines (aG n sh) sh am (bU n fl) tx) (W d)=some (2,b,())):=by
 have hpl:=hv.pl
 have hMU:=nA
 have hb:iH (Bx v nets lines (aG n sh) sh am (bU n fl) tx) (W d)=afb (wI (lines.map Int.natAbs), !(lines.all fun b=>b==0),(W d).1,(W d).2,v.1,v.2.1,v.2.2.1,v.2.2.2.1,v.2.2.2.2.1,v.2.2.2.2.2.1,v.2.2.2.2.2.2.1,v.2.2.2.2.2.2.2.1,v.2.2.2.2.2.2.2.2,lines.map W,nets.map W,(aG n sh).map W,sh.map shW,am.map W,bU n fl,tx.map W,()):=by
  unfold iH Bx
  dsimp only
  rw[ak5,aew (v:=v) (by omega) hal (W d) (lines.map W) (nets.map W) ((aG n sh).map W) (sh.map shW) (am.map W) (bU n fl) (tx.map W) _ ?_,aF]
  ·rfl
  ·simp;omega
 rw[hb]
 have him:ic d=true:=gp.2 hd
 unfold afb qW
 rw[him,amE]
 dsimp only
 cases hz:(lines.all fun b=>b==0) with
 | true=>
  rw[ajW,ajV,amE,amE]
  refine .inl ⟨[(0,d)],bif d==0 then [] else [0],rfl,hsh.snoc hn0 hd,by simp, ?_⟩
  have hbr:gm (Bx v nets lines (aG n sh) sh am (bU n fl) tx) 0 (W d)=some (Bx v nets lines (aG n (sh++[(0,d)])) (sh++[(0,d)]) am (bU n fl) tx,()):=UL v nets lines hn hsh (by omega) am (bU n fl) tx (k:=0) hn0 hd
  unfold Bx at hbr ⊢
  rw[FK v,show ((W d).1,(W d).2)=W d from rfl,hbr,amq]
  dsimp only
  have hg0:(bU n fl)[0]? =some (fl.contains 0):=BY _ hn0
  rw[aH (by rw[r0];simp only[ajK,amI];omega),hg0,amq]
  cases hc:fl.contains 0 with
  | true=>
   rw[amE,aH (by rw[r0];simp only[ajK,amI];omega),amq,FG,acp hc]
   cases hd0:d==0 with
   | true=>rw[amE,akx]
   | false=>rw[amD,acp hc]
  | false=>
   rw[amD,sK,amq,aH (by rw[r0];simp only[ajK,amI];omega),amq]
   dsimp only
   by_cases hd0:d=0
   ·subst hd0
    rw[show ((Int.sign 0) != 0)=false from rfl,ahG hn0 hc,show ((0:Int)==0)=true from rfl,amE,akx]
   ·have hs:(d.sign != 0)=true:=by
     have:=mt akm.1 hd0
     simpa using this
    rw[hs,FG,show (d==0)=false by simpa using hd0,amD]
 | false=>
  rw[ajV,ajW,amD,amD,Xn _ (by simp;omega),amq,aeS]
  dsimp only
  cases hw:(lines.any fun b=>decide (MW<b.natAbs)) with
  | true=>rw[amE,amE];exact .inr ⟨rfl,_,rfl⟩
  | false=>
   rw[amD,amD,show ((W d).1,(W d).2)=W d from rfl,M8,amq,amQ (by omega)]
   dsimp only
   have hws:Bg (lines.map Int.natAbs):=by
    refine⟨by simp;omega,fun w hwm=> ?_,Lv hz⟩
    have:=hw
    rw[← aeS,aku] at this
    have h1:=this w hwm
    simpa using h1
   rw[UE d v.2.2.2.1 (by omega) (by omega) _ hws,amq]
   dsimp only
   rw[zne,amD]
   have hxl:(cu d (lines.map Int.natAbs)).length=n:=by rw[FW,ak5,hll]
   have hxs:∀ x∈cu d (lines.map Int.natAbs),(x.natAbs:Int)≤MU:=fun x hx=>by
    have:=O5 (n:=d) hws.pos hx
    omega
   have hmem:=OJ (cu d (lines.map Int.natAbs)) 0
   have hlenz:(dG 0 (cu d (lines.map Int.natAbs))).length≤20:=by
    have nz_len:∀ (l:List Int) (k:Nat),(dG k l).length≤l.length:=by
     intro l
     induction l with
     | nil=>intro k;simp[dG]
     | cons y l ih=>
      intro k
      have:=ih (k+1)
      simp only[dG]
      split<;>simp<;>omega
    have:=nz_len (cu d (lines.map Int.natAbs)) 0
    omega
   refine .inl ⟨_,_,rfl,⟨fun p hp=> ?_,fun p hp=> ?_⟩,hlenz, ?_⟩
   ·rcases alh.1 hp with hp | hp
    ·exact hsh.ix p hp
    ·have:=(hmem p hp).2.1;omega
   ·rcases alh.1 hp with hp | hp
    ·exact hsh.am p hp
    ·exact hxs _ (hmem p hp).2.2.1
   ·rw[ak5,agf (v:=v) (nets:=nets) (lines:=lines) (am:=am) (tx:=tx) hn hsh hl fl (pl:=v.2.2.2.1) hxl hxs _ ?_,aF]
    ·rfl
    ·simp;omega
theorem acL {v:ah} (hv:jW v) (nets:List Int) (am tx:List Int) {n:Nat} (hn0:0<n) (hn:n≤20) {lines:List Int} (hll:lines.length=n) (hal:bh lines=true) {sh:Br} (hsh:jj n sh) (hl:sh.length≤1900) (hal2:am.length≤1000) (fl:List Nat)
 (o:Option Nat) (k:Nat) (ho:∀ k',o=some k'→k=k'∧k'<n) (d:Int):
 (∃ p g,qW o d lines= .inr (d,p,g)∧jj n (sh++p)∧p.length≤20∧G7 ((k:Int),o.isSome,(W d).1,(W d).2,v.1,v.2.1,v.2.2.1,v.2.2.2.1,v.2.2.2.2.1,v.2.2.2.2.2.1,v.2.2.2.2.2.2.1,v.2.2.2.2.2.2.2.1,v.2.2.2.2.2.2.2.2,lines.map W,nets.map W,(aG n sh).map W,sh.map shW,am.map W,bU n fl,tx.map W,())=
   some (bif bh (aG n (sh++p)) then 0 else 1,Bx v nets lines (aG n (sh++p)) (sh++p) (am++[d]) (bU n (fl++g)) tx,()))∨
 (∃ f b,f≠0∧qW o d lines= .inl f∧G7 ((k:Int),o.isSome,(W d).1,(W d).2,v.1,v.2.1,v.2.2.1,v.2.2.2.1,v.2.2.2.2.1,v.2.2.2.2.2.1,v.2.2.2.2.2.2.1,v.2.2.2.2.2.2.2.1,v.2.2.2.2.2.2.2.2,lines.map W,nets.map W,(aG n sh).map W,sh.map shW,am.map W,bU n fl,tx.map W,())=some (f,b,())):=by
 unfold G7
 dsimp only
 rw[show ((W d).1,(W d).2)=W d from rfl,GQ,amq]
 dsimp only
 cases him:ic d with
 | false=>
  refine .inr ⟨1,_,by omega, ?_,rfl⟩
  unfold qW;rw[him];rfl
 | true=>
  have hd:=gp.1 him
  rw[ajW,amD,aH (cr (by simp;omega) (by simp;omega))]
  rw[FK v,show am.map W++[W d]=(am++[d]).map W by simp]
  cases o with
  | some k'=>
   obtain⟨rfl,hk⟩:=ho k' rfl
   have hb:=UL v nets lines hn hsh (by omega) (am++[d]) (bU n fl) tx hk hd
   unfold Bx at hb
   rw[amv,amE,hb,amq]
   dsimp only
   rw[aH (by rw[r0];simp only[ajK,amI];omega),akq,BY _ hk,amq,PF _ (by rw[cx];omega),amq,FG]
   dsimp only
   refine .inl ⟨[(k,d)],[k],by unfold qW;rw[him];rfl,hsh.snoc hk hd,by simp, ?_⟩
   unfold Bx
   cases bh (aG n (sh++[(k,d)]))<;>rfl
  | none=>
   rw[amu,amD]
   rcases ahd hv nets (am++[d]) tx hn0 hn hll hal hsh hl fl hd with ⟨p,g,h1,h2,h3,h4⟩ | ⟨h1,b,h4⟩
   ·unfold Bx at h4
    rw[h4,amq]
    dsimp only
    rw[zne,amD,PF _ (by rw[cx];omega),amq]
    dsimp only
    refine .inl ⟨p,g,h1,h2,h3, ?_⟩
    unfold Bx
    cases bh (aG n (sh++p))<;>rfl
   ·unfold Bx at h4
    rw[h4,amq]
    exact .inr ⟨2,_,by omega,h1,rfl⟩
end Go.Md
namespace Go.Md
open Go.Dn
theorem acE {v:ah} (hv:jW v) {x:ax} (hx:OX (vPl v) x) (nb:Bool) (k:Int) {g:Int} (hg:Le 40 g) (L N B:List aa) (S:List bg) (A:List aa) (H:List Bool) (T:List aa):
 Y8 (k,nb,x.1,x.2.1.1,x.2.1.2,x.2.2,(W g).1,(W g).2,v.1,v.2.1,v.2.2.1,v.2.2.2.1,v.2.2.2.2.1,v.2.2.2.2.2.1,v.2.2.2.2.2.2.1,v.2.2.2.2.2.2.2.1,v.2.2.2.2.2.2.2.2,L,N,B,S,A,H,T,())=
  G7 (k,nb,(W (gA (dQ v) (vPl v) g x)).1,(W (gA (dQ v) (vPl v) g x)).2,v.1,v.2.1,v.2.2.1,v.2.2.2.1,v.2.2.2.2.1,v.2.2.2.2.2.1,v.2.2.2.2.2.2.1,v.2.2.2.2.2.2.2.1,v.2.2.2.2.2.2.2.2,L,N,B,S,A,H,T,()):=by
 have hpl:=hv.pl
 have hd1:=hx.dec.1;have hd2:=hx.dec.2
 unfold Y8
 dsimp only
 have hmx:(if x.2.1.2>v.2.2.2.1 then x.2.1.2 else v.2.2.2.1)=max v.2.2.2.1 x.2.1.2:=by omega
 rw[hmx,show (x.2.1.1,x.2.1.2)=x.2.1 from rfl,B6 _ _ (by omega) (by omega) (by omega) (by omega) (by omega),amq]
 dsimp only
 cases hp:x.1 with
 | true=>
  rw[amE,FK v,show ((W g).1,(W g).2)=W g from rfl,DT v g _ hx.dec (hg.mono (by omega)),amq,aF]
  unfold gA
  rw[hp,amQ rfl]
  rfl
 | false=>
  have hpp:x.2.1.2≤v.2.2.2.1:=hx.place hp
  rw[amD,aF,show max v.2.2.2.1 x.2.1.2=v.2.2.2.1 by omega]
  unfold gA
  rw[hp,amP (by simp)]
  rfl
theorem tG {l:List Int} {i:Nat} {x:Int} (h:l[i]? =some x):(l.take (i+1)).sum=(l.take i).sum+x:=by
 rw[alK,h,alH];simp
theorem CN {l:List Int} (hl:l.length≤1000) (h:bh l=true):Le 19 l.sum:=by
 have key:∀ l:List Int,bh l=true→l.sum.natAbs≤l.length*1000000000000000:=by
  intro l
  induction l with
  | nil=>intro _;simp
  | cons x l ih=>
   intro h
   unfold bh at h ih
   simp only[aks,ajK] at h
   have h1:=ih h.2
   have h2:=gp.1 h.1
   have:=nA
   simp only[alI,ak3,alQ,amf]
   omega
 have h1:=key l h
 have h2:l.length*1000000000000000≤1000*1000000000000000:=amd _ hl
 exact Le.int (by omega) (by omega)
theorem OD {l:List Int} (h:bh l=true) (i:Nat):bh (l.take i)=true:=by
 unfold bh at*
 rw[akt] at*
 exact fun x hx=>h x (als hx)
theorem agE {v:ah} (x:ax) (k:Int) {lines:List Int} (hl:lines.length≤1000) (hal:bh lines=true) (L N B:List aa) (S:List bg) (A:List aa) (H:List Bool) (T:List aa) (f:Nat) (hf:lines.length<f):
 iter f ((k,false,lines.map W,(lines.length:Int),(0:Int),x.1,x.2.1.1,x.2.1.2,x.2.2,(W 0).1,(W 0).2,v.1,v.2.1,v.2.2.1,v.2.2.2.1,v.2.2.2.2.1,v.2.2.2.2.2.1,v.2.2.2.2.2.2.1,v.2.2.2.2.2.2.2.1,v.2.2.2.2.2.2.2.2,L,N,B,S,A,H,T,()):mU) p9=
  some (Sum.inr (k,false,x.1,x.2.1.1,x.2.1.2,x.2.2,(W lines.sum).1,(W lines.sum).2,v.1,v.2.1,v.2.2.1,v.2.2.2.1,v.2.2.2.2.1,v.2.2.2.2.2.1,v.2.2.2.2.2.2.1,v.2.2.2.2.2.2.2.1,v.2.2.2.2.2.2.2.2,L,N,B,S,A,H,T,())):=by
 refine aZ (Inv:=fun i X=>X=((k,false,lines.map W,(lines.length:Int),(i:Int),x.1,x.2.1.1,x.2.1.2,x.2.2,(W (lines.take i).sum).1,(W (lines.take i).sum).2,v.1,v.2.1,v.2.2.1,v.2.2.2.1,v.2.2.2.2.1,v.2.2.2.2.2.1,v.2.2.2.2.2.2.1,v.2.2.2.2.2.2.2.1,v.2.2.2.2.2.2.2.2,L,N,B,S,A,H,T,()):mU)) lines.length
  (fun r=>r=some (Sum.inr (k,false,x.1,x.2.1.1,x.2.1.2,x.2.2,(W lines.sum).1,(W lines.sum).2,v.1,v.2.1,v.2.2.1,v.2.2.2.1,v.2.2.2.2.1,v.2.2.2.2.2.1,v.2.2.2.2.2.2.1,v.2.2.2.2.2.2.2.1,v.2.2.2.2.2.2.2.2,L,N,B,S,A,H,T,()))) ?_ ?_ f 0 _ rfl (by omega) (by omega)
 ·rintro i _ again hi rfl ih
  unfold p9
  dsimp only
  have hz:lines[i]? =some lines[i]:=aC hi
  have hzm:ic lines[i]=true:=akt.1 hal _ (ak1 hi)
  generalize lines[i]=z at hz hzm
  have h1:=CN (l:=lines.take i) (by rw[alc];omega) (OD hal i)
  have h2:=Io (gp.1 hzm)
  rw[aD (by omega),bf,akT,hz,amx,amq,show ((W (lines.take i).sum).1,(W (lines.take i).sum).2)=W (lines.take i).sum from rfl,dZ _ _ (h1.w (by omega)) (h2.w (by omega)),amq,az (by omega) (by omega), ← tG hz]
  exact ih _ rfl
 ·rintro _ again rfl
  unfold p9
  dsimp only
  rw[aE (by omega),alN (alZ _)]
theorem ah9 {v:ah} (hv:jW v) (nets am tx:List Int) {lines:List Int} (hll:lines.length=(ai v).length) (hal:bh lines=true) {sh:Br} (hsh:jj (ai v).length sh) (hl:sh.length≤1900) (hal2:am.length≤1000) (fl:List Nat) {x:ax} (hx:OX (vPl v) x):
 (∃ d p g,yp v lines x= .inr (d,p,g)∧jj (ai v).length (sh++p)∧p.length≤20∧nj (Bx v nets lines (aG (ai v).length sh) sh am (bU (ai v).length fl) tx) x=
   some (bif bh (aG (ai v).length (sh++p)) then 0 else 1,Bx v nets lines (aG (ai v).length (sh++p)) (sh++p) (am++[d]) (bU (ai v).length (fl++g)) tx,()))∨
 (∃ f b,f≠0∧yp v lines x= .inl f∧nj (Bx v nets lines (aG (ai v).length sh) sh am (bU (ai v).length fl) tx) x=some (f,b,())):=by
 have hrn:0<(ai v).length∧(ai v).length≤20:=hv.rn
 obtain⟨k,hk1,hk2⟩:=Fy (ai v) x.2.2 (by omega) hv.asc
 have hg:Le 40 (oR v lines x):=by
  unfold oR
  cases ho:cB (·.1) x.2.2 (ai v) with
  | some k'=>
   dsimp only
   rw[akK]
   cases hz:lines[k']? with
   | none=>exact (show Le 40 0 by unfold Le;simp)
   | some z=>exact (Io (gp.1 (akt.1 hal _ (alr hz)))).mono (by omega)
  | none=>exact (CN (by omega) hal).mono (by omega)
 have hred:nj (Bx v nets lines (aG (ai v).length sh) sh am (bU (ai v).length fl) tx) x=G7 ((k:Int),(cB (·.1) x.2.2 (ai v)).isSome,(W (gA (dQ v) (vPl v) (oR v lines x) x)).1,(W (gA (dQ v) (vPl v) (oR v lines x) x)).2,v.1,v.2.1,v.2.2.1,v.2.2.2.1,v.2.2.2.2.1,v.2.2.2.2.2.1,v.2.2.2.2.2.2.1,v.2.2.2.2.2.2.2.1,v.2.2.2.2.2.2.2.2,lines.map W,nets.map W,(aG (ai v).length sh).map W,sh.map shW,am.map W,bU (ai v).length fl,tx.map W,()):=by
  rw[← acE hv hx]
  ·unfold nj Bx
   dsimp only
   rw[gq 0 (by omega) (by omega),amq]
   have hk1':si v.2.2.2.2.2.2.1 x.2.2=some ((k:Int),(cB (·.1) x.2.2 (ai v)).isSome,()):=hk1
   rw[hk1',amq]
   dsimp only
   cases ho:cB (·.1) x.2.2 (ai v) with
   | some k'=>
    obtain rfl:=hk2 k' ho
    obtain⟨rt,hrt,_⟩:=jX ho
    have hkl:k<lines.length:=by rw[hll];exact (akS.1 hrt).1
    have hz:lines[k]? =some lines[k]:=aC hkl
    rw[amv,amE,bf,akT,hz,amx,amq,aF]
    have hbase:oR v lines x=lines[k]:=by
     unfold oR;rw[ho];dsimp only;rw[akK,hz];rfl
    rw[hbase]
    rfl
   | none=>
    have hbase:oR v lines x=lines.sum:=by
     unfold oR;rw[ho]
    rw[hbase]
    rw[amu,amD,ak5,agE (v:=v) x (k:Int) (by omega) hal (lines.map W) (nets.map W) ((aG (ai v).length sh).map W) (sh.map shW) (am.map W) (bU (ai v).length fl) (tx.map W) _ ?_,aF,aF]
    ·rfl
    ·simp;omega
  ·exact hg
 rw[hred]
 unfold yp
 rcases acL hv nets am tx hrn.1 hrn.2 hll hal hsh hl hal2 fl (cB (·.1) x.2.2 (ai v)) k (fun k' h=>⟨hk2 k' h,by obtain⟨rt,hrt,_⟩:=jX h;exact (akS.1 hrt).1⟩) (gA (dQ v) (vPl v) (oR v lines x) x) with ⟨p,g,h1,h2,h3,h4⟩ | ⟨f,b,h1,h2,h3⟩
 ·exact .inl ⟨_,p,g,h1,h2,h3,h4⟩
 ·exact .inr ⟨f,b,h1,h2,h3⟩
end Go.Md
namespace Go.Md
open Go.Dn
theorem JB {α:Type} {b:Bool} (h:b=true) (x y:α):(bif b then x else y)=x:=by rw[h];rfl
theorem Ki {α:Type} {b:Bool} (h:b=false) (x y:α):(bif b then x else y)=y:=by rw[h];rfl
theorem aiJ {α:Type} {b:Bool} (h:b=true) (x y:α):(bif !b then x else y)=y:=by rw[h];rfl
theorem aiy {α:Type} {b:Bool} (h:b=false) (x y:α):(bif !b then x else y)=x:=by rw[h];rfl
def K35:Nat:=10 ^ 35
theorem Le.k35 {z:Int} (h:Le 35 z):z.natAbs≤K35:=h
theorem ai3 {z:Int} {c:Nat} (hc:c≤1000) (h:z.natAbs≤c*K35):Le 38 z:=by
 unfold Le
 have h1:c*K35≤1000*K35:=amd _ hc
 have h2:1000*K35=10 ^ 38:=by unfold K35;decide
 omega
theorem nt (way:Int) (pc:aj) (k:Nat):∀ (a b:Br),iR way pc k (a++b)=iR way pc k a+iR way pc k b
 | [],b=>by simp[iR]
 | p::a,b=>by simp only[aky,iR,nt way pc k a b];omega
theorem afj {way:Int} {pc:aj} (hp:aY pc) (k:Nat):∀ {b:Br},(∀ p∈b,(p.2.natAbs:Int)≤MU)→(iR way pc k b).natAbs≤b.length*K35
 | [],_=>by simp[iR]
 | p::b,h=>by
  have h1:=afj (way:=way) hp k (b:=b) fun q hq=>h q (alj _ hq)
  have h2:(jg way p.2 pc).natAbs≤K35:=(YH (Io (h p alk)) hp:Le 35 _).k35
  simp only[iR,ak3,alQ,amf]
  split<;>omega
theorem Vm {v:ah} {k:Nat} {r:aB} (h:(ai v)[k]? =some r):nF v k=r.2:=by
 unfold nF;rw[akK,h];rfl
theorem ahy {v:ah} (hv:jW v) {br:Br} (hbr:jj (ai v).length br) (hl:br.length≤1000) (L N:List aa) (S:List bg) (A:List aa) (H:List Bool) (f:Nat) (hf:(ai v).length<f):
 iter f ((ai v,((ai v).length:Int),(0:Int),v.1,v.2.1,v.2.2.1,v.2.2.2.1,v.2.2.2.2.1,v.2.2.2.2.2.1,v.2.2.2.2.2.2.1,v.2.2.2.2.2.2.2.1,v.2.2.2.2.2.2.2.2,L,List.replicate (Int.toNat ((ai v).length:Int)) ((false,[]):aa),N,(aG (ai v).length br).map W,S,A,H,()):oI) sC=
  some (Sum.inr (v.1,v.2.1,v.2.2.1,v.2.2.2.1,v.2.2.2.2.1,v.2.2.2.2.2.1,v.2.2.2.2.2.2.1,v.2.2.2.2.2.2.2.1,v.2.2.2.2.2.2.2.2,L,((List.range (ai v).length).map fun k=>if lM v=true then 0 else jg (dQ v) (atB br k) (nF v k)).map W,N,(aG (ai v).length br).map W,S,A,H,())):=by
 have hrn:0<(ai v).length∧(ai v).length≤20:=hv.rn
 refine aZ (Inv:=fun i X=>X=((ai v,((ai v).length:Int),(i:Int),v.1,v.2.1,v.2.2.1,v.2.2.2.1,v.2.2.2.2.1,v.2.2.2.2.2.1,v.2.2.2.2.2.2.1,v.2.2.2.2.2.2.2.1,v.2.2.2.2.2.2.2.2,L,((List.range (ai v).length).map fun k=>if lM v=true∨i≤k then 0 else jg (dQ v) (atB br k) (nF v k)).map W,N,(aG (ai v).length br).map W,S,A,H,()):oI)) (ai v).length
  (fun r=>r=some (Sum.inr (v.1,v.2.1,v.2.2.1,v.2.2.2.1,v.2.2.2.2.1,v.2.2.2.2.2.1,v.2.2.2.2.2.2.1,v.2.2.2.2.2.2.2.1,v.2.2.2.2.2.2.2.2,L,((List.range (ai v).length).map fun k=>if lM v=true then 0 else jg (dQ v) (atB br k) (nF v k)).map W,N,(aG (ai v).length br).map W,S,A,H,()))) ?_ ?_ f 0 _ ?_ (by omega) (by omega)
 ·rintro i _ again hi rfl ih
  unfold sC
  dsimp only
  have hr:(ai v)[i]? =some (ai v)[i]:=aC hi
  have hrm:=ak1 hi
  generalize (ai v)[i]=r at hr hrm
  have hpc:=Vm hr
  have hpo:=afo hv i
  rw[aD (by omega),bf,hr,amq]
  rcases Bool.eq_false_or_eq_true v.2.2.2.2.2.1 with hper | hper
  ·rw[aiJ hper,az (by omega) (by omega)]
   refine ih _ ?_
   have hp:lM v=true:=hper
   simp only[hp,true_or,amR]
   rfl
  ·have hp:lM v=false:=hper
   have hbm:((aG (ai v).length br).map W)[i]? =some (W (atB br i)):=by rw[akT,fy _ hi];rfl
   have htm:∃ y,(((List.range (ai v).length).map fun k=>if lM v=true∨i≤k then 0 else jg (dQ v) (atB br k) (nF v k)).map W)[i]? =some y:=⟨_,aC (by simp;omega)⟩
   obtain⟨y0,hy0⟩:=htm
   rw[aiy hper,aH (by rw[ak5,cx];simp only[ajK,amI];omega),akq,hbm,amq]
   rw[FK v, ← hpc,DT v _ _ hpo ((aa9 hbr (by omega) i).mono (by omega)),amq]
   dsimp only
   rw[aH (by simp only[ak5,ak9,ajK,amI];omega),hy0,amq,az (by omega) (by omega), ← List.map_set]
   refine ih _ ?_
   congr 13
   refine congrArg (fun z:List Int=>(z.map W,_)) ?_
   refine jv _ _ _ _ _ (fun j hj hji=> ?_) ?_
   ·simp only[hp,ajP,amN]
    by_cases h1:i≤j
    ·rw[amQ h1,amQ (by omega)]
    ·rw[amP h1,amP (by omega)]
   ·simp only[hp,ajP,amN]
    rw[amP (by omega)]
 ·rintro _ again rfl
  unfold sC
  dsimp only
  rw[aE (by omega)]
  congr 12
  refine congrArg (fun z:List Int=>(z.map W,_)) ?_
  apply ale
  intro k hk
  rw[alv] at hk
  by_cases hp:lM v=true
  ·rw[amQ (.inl hp),amQ hp]
  ·rw[amP (fun h=>h.elim hp (fun h=>by omega)),amP hp]
 ·simp only[amm,or_true,amR]
  congr 13
  rw[akq]
  refine congrArg (fun z:List aa=>(z,_)) ?_
  apply akH
  intro i
  by_cases hi:i<(ai v).length
  ·rw[akT,akT,akU hi,akV,amQ hi];rfl
  ·rw[akR (by simp;omega),akR (by simp;omega)]
def Ji (v:ah) (br:Br) (i k:Nat):Int:=if lM v=true then iR (dQ v) (nF v k) k (br.take i) else jg (dQ v) (atB br k) (nF v k)
theorem ahn {v:ah} (hv:jW v) {br:Br} (hbr:jj (ai v).length br) (hl:br.length≤1000) (L N B:List aa) (A:List aa) (H:List Bool) (f:Nat) (hf:br.length<f):
 iter f (((br.length:Int),(0:Int),v.1,v.2.1,v.2.2.1,v.2.2.2.1,v.2.2.2.2.1,v.2.2.2.2.2.1,v.2.2.2.2.2.2.1,v.2.2.2.2.2.2.2.1,v.2.2.2.2.2.2.2.2,L,((List.range (ai v).length).map (Ji v br 0)).map W,N,B,br.map shW,A,H,()):oG) sM=
  some (Sum.inr (v.1,v.2.1,v.2.2.1,v.2.2.2.1,v.2.2.2.2.1,v.2.2.2.2.2.1,v.2.2.2.2.2.2.1,v.2.2.2.2.2.2.2.1,v.2.2.2.2.2.2.2.2,L,(cX v br).map W,N,B,br.map shW,A,H,())):=by
 refine aZ (Inv:=fun i X=>X=(((br.length:Int),(i:Int),v.1,v.2.1,v.2.2.1,v.2.2.2.1,v.2.2.2.2.1,v.2.2.2.2.2.1,v.2.2.2.2.2.2.1,v.2.2.2.2.2.2.2.1,v.2.2.2.2.2.2.2.2,L,((List.range (ai v).length).map (Ji v br i)).map W,N,B,br.map shW,A,H,()):oG)) br.length
  (fun r=>r=some (Sum.inr (v.1,v.2.1,v.2.2.1,v.2.2.2.1,v.2.2.2.2.1,v.2.2.2.2.2.1,v.2.2.2.2.2.2.1,v.2.2.2.2.2.2.2.1,v.2.2.2.2.2.2.2.2,L,(cX v br).map W,N,B,br.map shW,A,H,()))) ?_ ?_ f 0 _ rfl (by omega) (by omega)
 ·rintro i _ again hi rfl ih
  unfold sM
  dsimp only
  have hp:br[i]? =some br[i]:=aC hi
  have hpm:=ak1 hi
  generalize br[i]=p at hp hpm
  have hpx:=hbr.ix p hpm
  have hpa:=hbr.am p hpm
  have hsm:(br.map shW)[i]? =some (shW p):=by rw[akT,hp];rfl
  rw[aD (by omega),aH (by rw[ak5];simp only[ajK,amI];omega),akq,hsm,amq]
  have e1:(shW p).1=(p.1:Int):=rfl
  have e2:(shW p).2=W p.2:=rfl
  rw[e1,e2]
  rcases Bool.eq_false_or_eq_true v.2.2.2.2.2.1 with hper | hper
  ·have hpr:lM v=true:=hper
   have hr:(ai v)[p.1]? =some (ai v)[p.1]:=aC hpx
   generalize (ai v)[p.1]=r at hr
   have hpc:=Vm hr
   have hpo:=afo hv p.1
   have htl:=afj (way:=dQ v) hpo p.1 (b:=br.take i) fun q hq=>hbr.am q (als hq)
   have htl2:=ai3 (show (br.take i).length≤1000 by rw[alc];omega) htl
   have hpt:Le 38 (jg (dQ v) p.2 (nF v p.1)):=(YH (Io hpa) hpo:Le 35 _).mono (by omega)
   have hget:(((List.range (ai v).length).map (Ji v br i)).map W)[p.1]? =some (W (iR (dQ v) (nF v p.1) p.1 (br.take i))):=by
    rw[akT,akT,akU hpx]
    unfold Ji
    simp only[amx,hpr,amR]
   have hck:(decide (0≤(p.1:Int))&&decide ((p.1:Int)<((((List.range (ai v).length).map (Ji v br i)).map W).length:Int)))=true:=by
    simp only[ak5,ak9,ajK,amI];omega
   rw[JB hper,aH hck,akq,hget,amq,bf,show v.2.2.2.2.2.2.1=ai v from rfl,hr,amq]
   rw[show (v.1,v.2.1,v.2.2.1,v.2.2.2.1,v.2.2.2.2.1,v.2.2.2.2.2.1,ai v,v.2.2.2.2.2.2.2.1,v.2.2.2.2.2.2.2.2)=v from rfl, ← hpc,DT v _ _ hpo ((Io hpa).mono (by omega)),amq]
   dsimp only
   rw[dZ _ _ (htl2.w (by omega)) (hpt.w (by omega)),amq,aH hck,amq,az (by omega) (by omega), ← List.map_set]
   refine ih _ ?_
   congr 12
   refine congrArg (fun z:List Int=>(z.map W,_)) ?_
   have htk:br.take (i+1)=br.take i++[p]:=by rw[alK,hp];rfl
   refine jv _ _ _ _ _ (fun j hj hji=> ?_) ?_
   ·unfold Ji
    simp only[hpr,amR,htk,nt,iR]
    rw[amP (fun e=>hji e.symm)];omega
   ·unfold Ji
    simp only[hpr,amR,htk,nt,iR]
    omega
  ·have hpr:lM v=false:=hper
   rw[Ki hper,az (by omega) (by omega)]
   refine ih _ ?_
   congr 12
   refine congrArg (fun z:List Int=>(z.map W,_)) ?_
   apply ale
   intro k _
   unfold Ji
   simp[hpr]
 ·rintro _ again rfl
  unfold sM
  dsimp only
  rw[aE (by omega)]
  congr 12
  refine congrArg (fun z:List Int=>(z.map W,_)) ?_
  apply ale
  intro k _
  unfold Ji rL
  rw[alN (alZ _)]
theorem aje {v:ah} (hv:jW v) (nets lines am:List Int) {br:Br} (hbr:jj (ai v).length br) (hl:br.length≤1000) (has:List Bool):
 zI (Bx v nets lines (aG (ai v).length br) br am has [])=some (bif bh (cX v br) then 0 else 1,Bx v nets lines (aG (ai v).length br) br am has (cX v br),()):=by
 have hrn:0<(ai v).length∧(ai v).length≤20:=hv.rn
 unfold zI Bx
 dsimp only
 rw[ak5,cx,aH (by simp only[ajK,amI];omega),ahy hv hbr hl (lines.map W) (nets.map W) (br.map shW) (am.map W) has _ ?_,aF]
 ·dsimp only
  have e0:((List.range (ai v).length).map fun k=>if lM v=true then 0 else jg (dQ v) (atB br k) (nF v k))=(List.range (ai v).length).map (Ji v br 0):=by
   apply ale
   intro k _
   unfold Ji
   split<;>rfl
  rw[e0,ak5,ahn hv hbr hl (lines.map W) (nets.map W) ((aG (ai v).length br).map W) (am.map W) has _ ?_,aF]
  ·dsimp only
   rw[aaf _ (by unfold cX;simp;omega),amq]
   dsimp only
   cases bh (cX v br)<;>rfl
  ·simp;omega
 ·simp;omega
end Go.Md
namespace Go.Md
open Go.Dn
theorem zq (v:ah) (lines:List Int):∀ (a b:List ax) (s:ESt),cz v lines (a++b) s=match cz v lines a s with | .inl f=> .inl f | .inr t=>cz v lines b t
 | [],b,s=>rfl
 | x::a,b,s=>by
  simp only[aky,cz]
  cases yp v lines x with
  | inl f=>rfl
  | inr t=>
   dsimp only
   cases bh (aG (ai v).length (s.1++t.2.1)) with
   | true=>simp only[amE];exact zq v lines a b _
   | false=>rfl
theorem adu {v:ah} {lines:List Int} {l:List ax} {i:Nat} {x:ax} (hx:l[i]? =some x) {s t:ESt} (h:cz v lines (l.take i) s= .inr t):
 cz v lines (l.take (i+1)) s=match yp v lines x with | .inl f=> .inl f | .inr r=>bif bh (aG (ai v).length (t.1++r.2.1)) then .inr (t.1++r.2.1,t.2.1++r.2.2,t.2.2++[r.1]) else .inl 1:=by
 rw[alK,hx,zq,h]
 simp only[Option.toList,cz]
 cases yp v lines x<;>rfl
theorem Kw {v:ah} {lines:List Int} {l:List ax} {i:Nat} {s:ESt} {f:Int} (h:cz v lines (l.take i) s= .inl f):cz v lines l s= .inl f:=by
 have:=zq v lines (l.take i) (l.drop i) s
 rw[alL,h] at this
 exact this
def gS (v:ah) (lines:List Int) (s:ShZ):bZ:=(v,s.nets.map W,lines.map W,(aG (ai v).length s.br).map W,s.br.map shW,s.am.map W,bU (ai v).length s.fl,s.taxes.map W)
theorem aeE {v:ah} (hv:jW v) (nets lines:List Int) (hll:lines.length=(ai v).length) (hal:bh lines=true) {lb:Br} (hlb:jj (ai v).length lb) (hlbl:lb.length≤500) (fl0:List Nat) (ar:List bZ) (f:Nat) (hf:(bF v).length<f):
 (∃ s:ESt,cz v lines (bF v) (lb,fl0,[])= .inr s∧jj (ai v).length s.1∧s.1.length≤900∧
   iter f ((bF v,((bF v).length:Int),(0:Int),v.1,v.2.1,v.2.2.1,v.2.2.2.1,v.2.2.2.2.1,v.2.2.2.2.2.1,v.2.2.2.2.2.2.1,v.2.2.2.2.2.2.2.1,v.2.2.2.2.2.2.2.2,nets.map W,lines.map W,(aG (ai v).length lb).map W,lb.map shW,([]:List aa),bU (ai v).length fl0,([]:List aa),ar,()):mg) oJ=
    some (Sum.inr (v.1,v.2.1,v.2.2.1,v.2.2.2.1,v.2.2.2.2.1,v.2.2.2.2.2.1,v.2.2.2.2.2.2.1,v.2.2.2.2.2.2.2.1,v.2.2.2.2.2.2.2.2,nets.map W,lines.map W,(aG (ai v).length s.1).map W,s.1.map shW,s.2.2.map W,bU (ai v).length s.2.1,([]:List aa),ar,())))∨
 (∃ fa,fa≠0∧cz v lines (bF v) (lb,fl0,[])= .inl fa∧
   iter f ((bF v,((bF v).length:Int),(0:Int),v.1,v.2.1,v.2.2.1,v.2.2.2.1,v.2.2.2.2.1,v.2.2.2.2.2.1,v.2.2.2.2.2.2.1,v.2.2.2.2.2.2.2.1,v.2.2.2.2.2.2.2.2,nets.map W,lines.map W,(aG (ai v).length lb).map W,lb.map shW,([]:List aa),bU (ai v).length fl0,([]:List aa),ar,()):mg) oJ=some (Sum.inl (none,fa,ar,()))):=by
 have hxl:(bF v).length≤20:=(iO hv.ext).1
 have hxe:=(iO hv.ext).2
 refine aZ (Inv:=fun i X=>∃ s:ESt,cz v lines ((bF v).take i) (lb,fl0,[])= .inr s∧jj (ai v).length s.1∧s.1.length≤500+20*i∧s.2.2.length=i∧X=((bF v,((bF v).length:Int),(i:Int),v.1,v.2.1,v.2.2.1,v.2.2.2.1,v.2.2.2.2.1,v.2.2.2.2.2.1,v.2.2.2.2.2.2.1,v.2.2.2.2.2.2.2.1,v.2.2.2.2.2.2.2.2,nets.map W,lines.map W,(aG (ai v).length s.1).map W,s.1.map shW,s.2.2.map W,bU (ai v).length s.2.1,([]:List aa),ar,()):mg)) (bF v).length
  (fun r=>(∃ s:ESt,cz v lines (bF v) (lb,fl0,[])= .inr s∧jj (ai v).length s.1∧s.1.length≤900∧r=some (Sum.inr (v.1,v.2.1,v.2.2.1,v.2.2.2.1,v.2.2.2.2.1,v.2.2.2.2.2.1,v.2.2.2.2.2.2.1,v.2.2.2.2.2.2.2.1,v.2.2.2.2.2.2.2.2,nets.map W,lines.map W,(aG (ai v).length s.1).map W,s.1.map shW,s.2.2.map W,bU (ai v).length s.2.1,([]:List aa),ar,())))∨
    (∃ fa,fa≠0∧cz v lines (bF v) (lb,fl0,[])= .inl fa∧r=some (Sum.inl (none,fa,ar,())))) ?_ ?_ f 0 _ ⟨(lb,fl0,[]),rfl,hlb,by simpa using hlbl,rfl,rfl⟩ (by omega) (by omega)
 ·rintro i _ again hi ⟨s,h1,h2,h3,h4,rfl⟩ ih
  unfold oJ
  dsimp only
  have hx:(bF v)[i]? =some (bF v)[i]:=aC hi
  have hxm:=ak1 hi
  generalize (bF v)[i]=x at hx hxm
  have hxo:=(hxe x hxm).1
  have hst:=adu hx h1
  rw[aD (by omega),bf,hx,amq]
  have he:=ah9 hv nets s.2.2 [] hll hal h2 (by omega) (by omega) s.2.1 hxo
  unfold Bx at he
  rw[FK v]
  rcases he with ⟨d,p,g,g1,g2,g3,g4⟩ | ⟨fa,b,g0,g1,g4⟩
  ·rw[g1] at hst
   dsimp only at hst
   rw[show ([]:List aa)=([]:List Int).map W from rfl,g4,amq]
   dsimp only
   cases ha:bh (aG (ai v).length (s.1++p)) with
   | true=>
    rw[ha,amE] at hst
    rw[amE,zne,amD,az (by omega) (by omega)]
    exact ih _ ⟨_,hst,g2,by rw[ak2];omega,by rw[ak2];simp[h4],rfl⟩
   | false=>
    rw[ha,amD] at hst
    rw[amD,show ((1:Int) != 0)=true from rfl,amE]
    exact .inr ⟨1,by omega,Kw hst,rfl⟩
  ·rw[g1] at hst
   rw[show ([]:List aa)=([]:List Int).map W from rfl,g4,amq]
   dsimp only
   rw[show (fa != 0)=true by simpa using g0,amE]
   exact .inr ⟨fa,g0,Kw hst,rfl⟩
 ·rintro _ again ⟨s,h1,h2,h3,h4,rfl⟩
  unfold oJ
  dsimp only
  rw[aE (by omega)]
  rw[alN (alZ _)] at h1
  exact .inl ⟨s,h1,h2,by omega,rfl⟩
theorem sE {v:ah} (h0:cK v=0):
 (∃ lines s,oL v= .inr s∧jj (ai v).length s.br∧s.br.length≤900∧m7 v []=some (some 0,0,[gS v lines s],()))∨
 (∃ f,f≠0∧oL v= .inl f∧m7 v []=some (none,f,[],())):=by
 have hv:=gh h0
 have hrn:0<(ai v).length∧(ai v).length≤20:=hv.rn
 have hln:0<(aU v).length∧(aU v).length≤500:=hv.ln
 unfold m7 oL
 rw[oY,amq]
 dsimp only
 rw[h0,zne,amD]
 rcases Ww hv with ⟨lb,h1,h2,h3,h4,e⟩ | ⟨h1,b,e⟩
 ·rw[e,amq,h1]
  unfold Bx
  dsimp only
  rw[zne,amD,h4,amE]
  have hll:=cx (ai v).length lb
  have hve:(bF v).length=v.2.2.2.2.2.2.2.2.length:=rfl
  rcases aeE hv (lb.map (·.2)) (aG (ai v).length lb) hll h4 h2 (by omega) (lb.map (·.1)) [] (v.2.2.2.2.2.2.2.2.length+(Int.natAbs ((v.2.2.2.2.2.2.2.2.length:Int))+(Int.natAbs (0:Int)+(v.1.length+(v.2.1.length+(v.2.2.1.natAbs+(v.2.2.2.1.natAbs+(v.2.2.2.2.1.natAbs+(v.2.2.2.2.2.2.1.length+(v.2.2.2.2.2.2.2.1.length+(v.2.2.2.2.2.2.2.2.length+(List.length ((lb.map (·.2)).map W)+(List.length ((aG (ai v).length lb).map W)+(List.length ((aG (ai v).length lb).map W)+(List.length (lb.map shW)+(List.length ([]:List aa)+(List.length (bU (ai v).length (lb.map (·.1)))+(List.length ([]:List aa)+(List.length ([]:List bZ)+2))))))))))))))))))) (by omega) with ⟨s,g1,g2,g3,g4⟩ | ⟨fa,g0,g1,g4⟩
  ·rw[g1]
   dsimp only
   rw[show ([]:List Int).map W=([]:List aa) from rfl,g4,aF]
   dsimp only
   have ht:=aje hv (lb.map (·.2)) (aG (ai v).length lb) s.2.2 g2 (by omega) (bU (ai v).length s.2.1)
   unfold Bx at ht
   rw[show ([]:List Int).map W=([]:List aa) from rfl] at ht
   rw[FK v,ht,amq]
   dsimp only
   cases ha:bh (cX v s.1) with
   | true=>
    rw[amE,amE,zne,amD]
    exact .inl ⟨_,_,rfl,g2,g3,rfl⟩
   | false=>
    rw[amD,amD,show ((1:Int) != 0)=true from rfl,amE]
    exact .inr ⟨1,by omega,rfl,rfl⟩
  ·rw[g1]
   dsimp only
   rw[show ([]:List Int).map W=([]:List aa) from rfl,g4,dR]
   exact .inr ⟨fa,g0,rfl,rfl⟩
 ·rw[e,amq]
  dsimp only
  rw[show ((1:Int) != 0)=true from rfl,amE]
  refine .inr ⟨1,by omega, ?_,rfl⟩
  rcases h1 with h1 | ⟨lb,h1,h2⟩
  ·rw[h1]
  ·rw[h1]
   dsimp only
   rw[h2];rfl
end Go.Md
namespace Go.Md
open Go.Dn
theorem CO {v:ah} (hv:jW v):∀ {l:List au} {lb:Br},(∀ x∈l,x∈aU v)→cI v l=some lb→jj (ai v).length lb∧lb.length=l.length∧∀ (i:Nat) (x:au) (p:Nat×Int),l[i]? =some x→lb[i]? =some p→CA v x=some p.2∧p.1=OY v x
 | [],lb,_,h=>by simp only[cI,Option.some.injEq] at h;subst h;exact⟨⟨by simp,by simp⟩,rfl,by simp⟩
 | x::l,lb,hm,h=>by
  simp only[cI] at h
  cases hn:CA v x with
  | none=>rw[hn] at h;cases h
  | some z=>
   rw[hn] at h
   simp only at h
   cases hl:cI v l with
   | none=>rw[hl] at h;cases h
   | some lb'=>
    rw[hl] at h
    simp only[amx,Option.some.injEq] at h
    subst h
    obtain⟨h1,h2,h3⟩:=CO hv (fun y hy=>hm y (alj _ hy)) hl
    have hxo:=hv.lines x (hm x alk)
    obtain⟨k,hk⟩:=amt.1 hxo.rate
    obtain⟨rt,hrt,_⟩:=jX hk
    have hkl:k<(ai v).length:=(akS.1 hrt).1
    refine⟨⟨fun p hp=> ?_,fun p hp=> ?_⟩,by simp[h2],fun i y p hi hp=> ?_⟩
    ·rcases ali.1 hp with rfl | hp
     ·show (cB (·.1) x.2.2.2.2.2.2.2.2 (ai v)).getD 0<_
      rw[hk];exact hkl
     ·exact h1.ix p hp
    ·rcases ali.1 hp with rfl | hp
     ·exact (Sa hn).2
     ·exact h1.am p hp
    ·cases i with
     | zero=>
      simp only[akO,Option.some.injEq] at hi hp
      subst hi;subst hp;exact⟨hn,rfl⟩
     | succ i=>
      simp only[akN] at hi hp
      exact h3 i y p hi hp
theorem acZ:∀ (l:List Int) (k:Nat),(dG k l).length≤l.length
 | [],k=>by simp[dG]
 | y::l,k=>by
  have:=acZ l (k+1)
  simp only[dG]
  split<;>simp<;>omega
theorem aho {n:Nat} (hn0:0<n) (hn:n≤20) {o:Option Nat} (ho:∀ k,o=some k→k<n) {lines:List Int} (hll:lines.length=n) {d d':Int} {p:Br} {g:List Nat} (h:qW o d lines= .inr (d',p,g)):
 d'=d∧ic d=true∧jj n p∧p.length≤20∧(p.map (·.2)).sum=d∧∀ q∈p,q.2≠0→q.1∈g:=by
 unfold qW at h
 cases him:ic d with
 | false=>rw[him] at h;cases h
 | true=>
  rw[him,amE] at h
  have hd:=gp.1 him
  cases o with
  | some k=>
   simp only[Sum.inr.injEq,Prod.mk.injEq] at h
   obtain⟨rfl,rfl,rfl⟩:=h
   exact⟨rfl,rfl,⟨by simpa using ho k rfl,by simpa using hd⟩,by simp,by simp,by simp⟩
  | none=>
   dsimp only at h
   cases hz:(lines.all fun b=>b==0) with
   | true=>
    rw[hz,amE] at h
    simp only[Sum.inr.injEq,Prod.mk.injEq] at h
    obtain⟨rfl,rfl,rfl⟩:=h
    refine⟨rfl,rfl,⟨by simpa using hn0,by simpa using hd⟩,by simp,by simp,fun q hq hq0=> ?_⟩
    rw[alx.1 hq] at hq0 ⊢
    rw[show (d==0)=false by simpa using hq0,amD]
    simp
   | false=>
    rw[hz,amD] at h
    cases hw:(lines.any fun b=>decide (MW<b.natAbs)) with
    | true=>rw[hw] at h;cases h
    | false=>
     rw[hw,amD] at h
     simp only[Sum.inr.injEq,Prod.mk.injEq] at h
     obtain⟨rfl,rfl,rfl⟩:=h
     have hpos:=Lv hz
     have hmem:=OJ (cu d (lines.map Int.natAbs)) 0
     have hxl:(cu d (lines.map Int.natAbs)).length=n:=by rw[FW,ak5,hll]
     refine⟨rfl,rfl,⟨fun q hq=> ?_,fun q hq=> ?_⟩, ?_, ?_,fun q hq _=>alq hq⟩
     ·have:=(hmem q hq).2.1;omega
     ·have:=O5 (n:=d) hpos (hmem q hq).2.2.1;omega
     ·have:=acZ (cu d (lines.map Int.natAbs)) 0;omega
     ·rw[ac4,adX hpos]
theorem jj.append {n:Nat} {a b:Br} (ha:jj n a) (hb:jj n b):jj n (a++b):=
 ⟨fun p hp=>(alh.1 hp).elim (ha.ix p) (hb.ix p),fun p hp=>(alh.1 hp).elim (ha.am p) (hb.am p)⟩
theorem VO {v:ah} (hv:jW v) {lines:List Int} (hll:lines.length=(ai v).length):∀ (l:List ax) (s t:ESt),cz v lines l s= .inr t→jj (ai v).length s.1→bh s.2.2=true→(∀ q∈s.1,q.2≠0→q.1∈s.2.1)→bh (aG (ai v).length s.1)=true→
 jj (ai v).length t.1∧t.1.length≤s.1.length+20*l.length∧bh t.2.2=true∧t.2.2.length=s.2.2.length+l.length∧(t.1.map (·.2)).sum=(s.1.map (·.2)).sum+(t.2.2.sum - s.2.2.sum)∧(∀ q∈t.1,q.2≠0→q.1∈t.2.1)∧bh (aG (ai v).length t.1)=true
 | [],s,t,h,h1,h2,h3,h4=>by
  simp only[cz,Sum.inr.injEq] at h
  subst h
  exact⟨h1,by simp,h2,by simp,by omega,h3,h4⟩
 | x::l,s,t,h,h1,h2,h3,h4=>by
  have hrn:0<(ai v).length∧(ai v).length≤20:=hv.rn
  simp only[cz] at h
  cases hb:yp v lines x with
  | inl f=>rw[hb] at h;cases h
  | inr r=>
   obtain⟨d,p,g⟩:=r
   rw[hb] at h
   dsimp only at h
   unfold yp at hb
   have hbo:=aho hrn.1 hrn.2 (fun k hk=>by obtain⟨rt,hrt,_⟩:=jX hk;exact (akS.1 hrt).1) hll hb
   obtain⟨rfl,g1,g2,g3,g4,g5⟩:=hbo
   cases ha:bh (aG (ai v).length (s.1++p)) with
   | false=>rw[ha] at h;cases h
   | true=>
    rw[ha,amE] at h
    generalize gA (dQ v) (vPl v) (oR v lines x) x=d at*
    obtain⟨k1,k2,k3,k4,k5,k6,k7⟩:=VO hv hll l _ t h (h1.append g2) (by unfold bh at *;rw[List.all_append,h2];simpa using g1) (fun q hq hq0=>by
     rcases alh.1 hq with hq | hq
     ·exact alh.2 (.inl (h3 q hq hq0))
     ·exact alh.2 (.inr (g5 q hq hq0))) ha
    dsimp only at k2 k4 k5
    refine⟨k1, ?_,k3, ?_, ?_,k6,k7⟩
    ·rw[ak2] at k2;simp only[ak3];omega
    ·rw[ak2] at k4;simp only[ak3,ak7] at k4 ⊢;omega
    ·rw[k5,ald,alH,g4,alH];simp;omega
structure SOk (v:ah) (s:ShZ):Prop where
 nets:bh s.nets=true
 netl:s.nets.length=(aU v).length
 neti:∀ (i:Nat) (x:au) (z:Int),(aU v)[i]? =some x→s.nets[i]? =some z→CA v x=some z
 br:jj (ai v).length s.br
 brl:s.br.length≤900
 bs:bh (aG (ai v).length s.br)=true
 am:bh s.am=true
 aml:s.am.length≤20
 tx:bh s.taxes=true
 txe:s.taxes=cX v s.br
 sum:(s.br.map (·.2)).sum=s.nets.sum+s.am.sum
 fl:∀ q∈s.br,q.2≠0→q.1∈s.fl
theorem yH {v:ah} (hv:jW v) {s:ShZ} (h:oL v= .inr s):SOk v s:=by
 have hln:0<(aU v).length∧(aU v).length≤500:=hv.ln
 have hxl:(bF v).length≤20:=(iO hv.ext).1
 unfold oL at h
 cases hl:cI v (aU v) with
 | none=>rw[hl] at h;cases h
 | some lb=>
  rw[hl] at h
  dsimp only at h
  cases ha:bh (aG (ai v).length lb) with
  | false=>rw[ha] at h;cases h
  | true=>
   rw[ha,amE] at h
   cases he:cz v (aG (ai v).length lb) (bF v) (lb,lb.map (·.1),[]) with
   | inl f=>rw[he] at h;cases h
   | inr t=>
    rw[he] at h
    dsimp only at h
    cases ht:bh (cX v t.1) with
    | false=>rw[ht] at h;cases h
    | true=>
     rw[ht,amE] at h
     cases h
     obtain⟨b1,b2,b3⟩:=CO hv (fun x hx=>hx) hl
     obtain⟨k1,k2,k3,k4,k5,k6,k7⟩:=VO hv (cx _ _) _ _ t he b1 rfl (fun q hq _=>alq hq) ha
     dsimp only at k2 k4 k5
     refine⟨?_,by simp[b2],fun i x z hx hz=> ?_,k1,by show t.1.length≤900;omega,k7,k3,by show t.2.2.length≤20;simp only[ak7] at k4;omega,ht,rfl,by rw[k5];simp,k6⟩
     ·show bh (lb.map (·.2))=true
      unfold bh
      rw[akt]
      intro z hz
      obtain⟨p,hp,rfl⟩:=alp.1 hz
      exact gp.2 (b1.am p hp)
     ·simp only[akT] at hz
      cases hp:lb[i]? with
      | none=>rw[hp] at hz;cases hz
      | some p=>
       rw[hp] at hz
       simp only[amx,Option.some.injEq] at hz
       subst hz
       exact (b3 i x p hx hp).1
def cL (v:ah) (s:ShZ):bP:=(BA v s.nets.sum,BA v s.am.sum,BA v (s.nets.sum+s.am.sum),BA v s.taxes.sum,BA v (s.nets.sum+s.am.sum+s.taxes.sum))
def wK (v:ah) (s:ShZ) (k:Nat):ak:=(((ai v).getD k ([],(0,0))).1,BA v (atB s.br k),BA v (rL v s.br k))
def ew (v:ah) (s:ShZ):List ak:=((List.range (ai v).length).filter fun k=>s.fl.contains k).map (wK v s)
theorem LC {l:List Int} (hl:l.length≤1000) (hal:bh l=true):Fq (l.map W)=some (W l.sum,()):=by
 unfold Fq
 rw[gq 0 (by omega) (by omega),amq]
 dsimp only
 have loop:∀ f,l.length<f→iter f ((l.map W,(l.length:Int),(0:Int),false,([]:List Int),(W 0).1,(W 0).2,()):AL) Gn=some (Sum.inr (false,([]:List Int),(W l.sum).1,(W l.sum).2,())):=by
  intro f hf
  refine aZ (Inv:=fun i X=>X=((l.map W,(l.length:Int),(i:Int),false,([]:List Int),(W (l.take i).sum).1,(W (l.take i).sum).2,()):AL)) l.length (fun r=>r=some (Sum.inr (false,([]:List Int),(W l.sum).1,(W l.sum).2,()))) ?_ ?_ f 0 _ rfl (by omega) (by omega)
  ·rintro i _ again hi rfl ih
   unfold Gn
   dsimp only
   have hz:l[i]? =some l[i]:=aC hi
   have hzm:ic l[i]=true:=akt.1 hal _ (ak1 hi)
   generalize l[i]=z at hz hzm
   have h1:=CN (l:=l.take i) (by rw[alc];omega) (OD hal i)
   have h2:=Io (gp.1 hzm)
   rw[aD (by omega),bf,akT,hz,amx,amq,show ((W (l.take i).sum).1,(W (l.take i).sum).2)=W (l.take i).sum from rfl,dZ _ _ (h1.w (by omega)) (h2.w (by omega)),amq,az (by omega) (by omega), ← tG hz]
   exact ih _ rfl
  ·rintro _ again rfl
   unfold Gn
   dsimp only
   rw[aE (by omega),alN (alZ _)]
 rw[ak5,loop _ (by omega),aF]
theorem pW (v:ah) (lines:List Int) (s:ShZ) {z:Int} (hz:ic z=true):gW (some 0) (W z) [gS v lines s]=some (BA v z,()):=by
 have h:=gp.1 hz
 have:=nA
 unfold gW
 rw[amq,show ([gS v lines s]:List bZ)[0]? =some (gS v lines s) from rfl,amq,M8,amQ (by omega),amq]
 rfl
theorem E5 {v:ah} (hv:jW v) (lines:List Int) {s:ShZ} (hs:SOk v s):
 sS (some 0) [gS v lines s]=some (bif bh (qX s) then (cL v s,0,()) else (((0,0),(0,0),(0,0),(0,0),0,0),1,())):=by
 have hln:0<(aU v).length∧(aU v).length≤500:=hv.ln
 have hrn:0<(ai v).length∧(ai v).length≤20:=hv.rn
 have htl:s.taxes.length≤20:=by rw[hs.txe];unfold cX;simp;omega
 have hnl:=hs.netl;have haml:=hs.aml
 have n1:=CN (by omega) hs.nets
 have n2:=CN (by omega) hs.am
 have n3:=CN (by omega) hs.tx
 have n4:=(n1.add n2)
 have n5:=(n4.add (n3.mono (show 19≤20 by omega)))
 unfold sS
 have hg:([gS v lines s]:List bZ)[0]? =some (gS v lines s):=rfl
 simp only[amq,hg]
 rw[show (gS v lines s).2.1=s.nets.map W from rfl,LC (by omega) hs.nets,amq]
 rw[show (gS v lines s).2.2.2.2.2.1=s.am.map W from rfl,LC (by omega) hs.am,amq]
 rw[show (gS v lines s).2.2.2.2.2.2.2=s.taxes.map W from rfl,LC (by omega) hs.tx,amq]
 dsimp only
 rw[dZ _ _ (n1.w (by omega)) (n2.w (by omega)),amq]
 dsimp only
 rw[dZ _ _ (n4.w (by omega)) (n3.w (by omega)),amq]
 dsimp only
 rw[show [W s.nets.sum,W s.am.sum,W (s.nets.sum+s.am.sum),W s.taxes.sum,W (s.nets.sum+s.am.sum+s.taxes.sum)]=(qX s).map W from rfl,aab _ (by unfold qX;simp),amq]
 dsimp only
 cases ha:bh (qX s) with
 | false=>rfl
 | true=>
  have hal:=ha
  unfold bh qX at hal
  simp only[aks,List.all_nil,ajN,ajK] at hal
  obtain⟨a1,a2,a3,a4,a5⟩:=hal
  rw[ajW,amD,pW v lines s a1,amq,pW v lines s a2,amq,pW v lines s a3,amq,pW v lines s a4,amq,pW v lines s a5,amq]
  rfl
theorem acF {v:ah} (hv:jW v) (lines:List Int) {s:ShZ} (hs:SOk v s):wS (some 0) [gS v lines s]=some (ew v s,()):=by
 have hrn:0<(ai v).length∧(ai v).length≤20:=hv.rn
 have hg:([gS v lines s]:List bZ)[0]? =some (gS v lines s):=rfl
 unfold wS
 rw[amq,hg,amq]
 have loop:∀ f,(ai v).length<f→iter f ((some 0,([]:List ak),ai v,((ai v).length:Int),(0:Int),[gS v lines s],()):nM) rE=some (Sum.inr (ew v s,[gS v lines s],())):=by
  intro f hf
  refine aZ (Inv:=fun i X=>X=((some 0,((List.range i).filter fun k=>s.fl.contains k).map (wK v s),ai v,((ai v).length:Int),(i:Int),[gS v lines s],()):nM)) (ai v).length (fun r=>r=some (Sum.inr (ew v s,[gS v lines s],()))) ?_ ?_ f 0 _ rfl (by omega) (by omega)
  ·rintro i _ again hi rfl ih
   unfold rE
   dsimp only
   have hr:(ai v)[i]? =some (ai v)[i]:=aC hi
   generalize (ai v)[i]=r at hr
   have hrd:(ai v).getD i ([],(0,0))=r:=by rw[akK,hr];rfl
   have hbz:ic (atB s.br i)=true:=by
    have:=hs.bs
    unfold bh at this
    exact akt.1 this _ (alr (fy s.br hi))
   have htz:(s.taxes)[i]? =some (rL v s.br i):=by
    rw[hs.txe];unfold cX;rw[akT,akU hi];rfl
   have htm:ic (rL v s.br i)=true:=akt.1 hs.tx _ (alr htz)
   have e1:idx (gS v lines s).2.2.2.2.2.2.1 (i:Int)=some (s.fl.contains i):=by
    rw[show (gS v lines s).2.2.2.2.2.2.1=bU (ai v).length s.fl from rfl,bf,BY _ hi]
   have e2:idx (gS v lines s).2.2.2.1 (i:Int)=some (W (atB s.br i)):=by
    rw[show (gS v lines s).2.2.2.1=(aG (ai v).length s.br).map W from rfl,bf,akT,fy _ hi];rfl
   have e3:idx (gS v lines s).2.2.2.2.2.2.2 (i:Int)=some (W (rL v s.br i)):=by
    rw[show (gS v lines s).2.2.2.2.2.2.2=s.taxes.map W from rfl,bf,akT,htz];rfl
   have hfl:(((List.range i).filter fun k=>s.fl.contains k).map (wK v s)).length≤20:=by
    rw[ak5]
    have:=ak4 (fun k=>s.fl.contains k) (List.range i)
    rw[ak9] at this
    omega
   have hstep:((List.range (i+1)).filter fun k=>s.fl.contains k).map (wK v s)=((List.range i).filter fun k=>s.fl.contains k).map (wK v s)++(if s.fl.contains i=true then [wK v s i] else []):=by
    rw[alD,akI,ald]
    cases hc:s.fl.contains i with
    | true=>rw[List.filter_cons_of_pos (by rw[hc]),List.filter_nil,amQ rfl];rfl
    | false=>rw[List.filter_cons_of_neg (by rw[hc];exact ajQ),List.filter_nil,amP ajQ];rfl
   rw[aD (by omega),bf,hr]
   simp only[amq,hg,e1]
   cases hc:s.fl.contains i with
   | true=>
    rw[hc,amQ rfl] at hstep
    simp only[amE,e2,e3,amq,pW v lines s hbz,pW v lines s htm]
    rw[aH (cr (by omega) (by omega)),az (by omega) (by omega)]
    refine ih _ ?_
    rw[hstep]
    unfold wK
    rw[hrd]
    rfl
   | false=>
    rw[hc,amP (by simp),akx] at hstep
    rw[amD,az (by omega) (by omega)]
    refine ih _ ?_
    rw[hstep]
    rfl
  ·rintro _ again rfl
   unfold rE
   dsimp only
   rw[aE (by omega)]
   rfl
 have e:=loop (List.length ([]:List ak)+(List.length (ai v)+(Int.natAbs ((List.length (ai v):Int))+(Int.natAbs (0:Int)+2)))) (by omega)
 rw[show (gS v lines s).1.2.2.2.2.2.2.1=ai v from rfl,e,aF]
def aaT:bP:=((0,0),(0,0),(0,0),(0,0),0,0)
def ab3 (v:ah):List ak×Int×Unit:=if cK v≠0 then ([],cK v,()) else match fH v with | .inl f=>([],f,()) | .inr s=>(ew v s,0,())
def C7 (v:ah):bP×Int×Unit:=if cK v≠0 then (aaT,cK v,()) else match fH v with | .inl f=>(aaT,f,()) | .inr s=>(cL v s,0,())
theorem Wc {v:ah} (h:cK v≠0):m7 v []=some (none,cK v,[],()):=by
 unfold m7
 rw[oY,amq]
 dsimp only
 rw[show (cK v != 0)=true by simpa using h,amE]
end Go.Md
namespace Go.Md
open Go.Dn
theorem ud {n r:Nat} (h:0<r):n<n+r:=by omega
theorem oC {n a r:Nat} (h:n<r):n<a+r:=by omega
end Go.Md
namespace Go.Md
open Go.Dn
theorem Zj {α:Type} {l:List α} {i:Nat} {y:α} (h:l[i]? =some y):l.set i y=l:=by
 obtain⟨hi,rfl⟩:=akS.1 h
 exact List.set_getElem_self hi
theorem FJ {n r:Nat} (h:0<r):n<n+r:=by omega
theorem CR {n a r:Nat} (h:n<r):n<a+r:=by omega
theorem Za {l:List ax} (hl:l.length≤1000):kG l=some (l,()):=by
 unfold kG
 rw[aH (cr (by omega) (by omega))]
 cases l with
 | nil=>rw[Lm];rfl
 | cons a l=>rfl
theorem Wa {l:List au} (hl:l.length≤1000):ez l=some (l,()):=by
 unfold ez
 rw[aH (cr (by omega) (by omega))]
 cases l with
 | nil=>rw[Lm];rfl
 | cons a l=>rfl
theorem agn {l:List aB} (hl:l.length≤1000):lf l=some (l,()):=by
 unfold lf
 rw[aH (cr (by omega) (by omega))]
 cases l with
 | nil=>rw[Lm];rfl
 | cons a l=>rfl
theorem Pt {d:aj} (h:aY d):DS d=some (RW d,()):=by
 unfold DS RW
 have:=h.1
 rw[az (by omega) (by omega),show 0 - d.1= -d.1 by omega]
def upto {α:Type} (g:α→α) (l:List α) (i:Nat):List α:=(l.take i).map g++l.drop i
theorem Oc {α:Type} (g:α→α) (l:List α) (i:Nat):(upto g l i).length=l.length:=by
 unfold upto
 rw[ak2,ak5,alc,List.length_drop];omega
theorem OO {α:Type} (g:α→α) {l:List α} {i:Nat} (h:i<l.length):(upto g l i)[i]? =l[i]? :=by
 unfold upto
 rw[akM (by rw[ak5,alc];omega),akP,ak5,alc]
 congr 1;omega
theorem Pk {α:Type} (g:α→α) {l:List α} {i:Nat} (h:i<l.length):(upto g l i).set i (g l[i])=upto g l (i+1):=by
 unfold upto
 have h1:((l.take i).map g).length=i:=by rw[ak5,alc];omega
 rw[List.set_append_right _ _ (by omega),h1,Nat.sub_self,alK,aC h,ald,akw]
 congr 1
 rw[akC h]
 rfl
theorem KZ {α:Type} (g:α→α) (l:List α):upto g l 0=l:=by simp[upto]
theorem Om {α:Type} (g:α→α) (l:List α):upto g l l.length=l.map g:=by simp[upto]
theorem JY {pl:Int} {l:List ax} (hl:l.length≤20) (h:∀ x∈l,OX pl x):oy l=some (l.map fW,()):=by
 unfold oy
 rw[Za (by omega),amq]
 dsimp only
 have loop:∀ f,l.length<f→iter f (((l.length:Int),(0:Int),l,()):pY) vq=some (Sum.inr (l.map fW,())):=by
  intro f hf
  refine aZ (Inv:=fun i X=>X=(((l.length:Int),(i:Int),upto fW l i,()):pY)) l.length (fun r=>r=some (Sum.inr (l.map fW,()))) ?_ ?_ f 0 _ (by rw[KZ];rfl) (by omega) (by omega)
  ·rintro i _ again hi rfl ih
   have hy:=OO fW hi
   have hm:l[i]∈l:=ak1 hi
   have hs:=Pk fW hi
   rw[aC hi] at hy
   generalize l[i]=y at hy hm hs
   have hd:=(h y hm).dec
   unfold vq
   dsimp only
   rw[aD (by omega),Oc,aH (by simp only[ajK,amI];omega),akq,hy,amq,az (by omega) (by omega)]
   cases hp:y.1 with
   | false=>
    rw[ajV,amE,Pt hd,amq]
    dsimp only
    rw[aH (by simp only[ajK,amI];omega),amq]
    refine ih _ ?_
    rw[← hs]
    unfold fW
    rw[hp]
    rfl
   | true=>
    rw[ajW,amD]
    refine ih _ ?_
    rw[← hs,show fW y=y by unfold fW;rw[hp,amQ rfl, ← hp],show (upto fW l i).set i y=upto fW l i from Zj hy]
    rfl
  ·rintro _ again rfl
   unfold vq
   dsimp only
   rw[aE (by omega),Om]
 rw[loop _ (by rw[ake];omega),aF]
def zeroV:ah:=([],[],0,0,0,false,[],[],[])
def OF (v:ah) (n:Bys) (d:Int):ah×Int×Unit:=
 if cK v≠0 then (zeroV,cK v,()) else if iC n=false then (zeroV,5,()) else if n=v.1 then (zeroV,12,()) else if d<v.2.2.1∨3652059<d then (zeroV,1,())
 else if cK (Kb v n d)≠0 then (zeroV,cK (Kb v n d),()) else (Kb v n d,0,())
theorem Us (v:ah) (n:Bys) (d:Int):Bi v n d=some (OF v n d):=by
 unfold Bi OF
 rw[oY,amq]
 dsimp only
 by_cases h0:cK v=0
 ·rw[amP (by simpa using h0),show (cK v != 0)=false by simpa using h0,amD,qD,amq]
  dsimp only
  cases hn:iC n with
  | false=>rw[amQ rfl,ajV,amE];rfl
  | true=>
   rw[amP (by simp),ajW,amD]
   by_cases he:n=v.1
   ·rw[amQ he,show (n==v.1)=true by simpa using he,amE];rfl
   ·rw[amP he,show (n==v.1)=false by simpa using he,amD,kY,amq]
    dsimp only
    by_cases hd:d<v.2.2.1∨3652059<d
    ·rw[amQ hd,aD hd];rfl
    ·rw[amP hd,aE hd]
     have hv:=gh h0
     have hln:0<(aU v).length∧(aU v).length≤500:=hv.ln
     have hrn:0<(ai v).length∧(ai v).length≤20:=hv.rn
     have hx:=iO hv.ext
     have e1:lf (ai v)=some (ai v,()):=agn (by omega)
     have e2:ez (aU v)=some (aU v,()):=Wa (by omega)
     have e3:oy (bF v)=some ((bF v).map fW,()):=JY hx.1 fun x h=>(hx.2 x h).1
     rw[e1,amq,e2,amq,e3,amq]
     dsimp only
     have loop:∀ f,(aU v).length<f→iter f ((((aU v).length:Int),(0:Int),[],[],0,0,0,false,[],[],[],n,v.2.1,d,vPl v,dQ v,lM v,ai v,(bF v).map fW,aU v,()):oM) oH=
      some (Sum.inr ([],[],0,0,0,false,[],[],[],n,v.2.1,d,vPl v,dQ v,lM v,ai v,(bF v).map fW,(aU v).map rK,())):=by
      intro f hf
      refine aZ (Inv:=fun i X=>X=((((aU v).length:Int),(i:Int),[],[],0,0,0,false,[],[],[],n,v.2.1,d,vPl v,dQ v,lM v,ai v,(bF v).map fW,upto rK (aU v) i,()):oM)) (aU v).length (fun r=>r=some (Sum.inr ([],[],0,0,0,false,[],[],[],n,v.2.1,d,vPl v,dQ v,lM v,ai v,(bF v).map fW,(aU v).map rK,()))) ?_ ?_ f 0 _ (by rw[KZ];rfl) (by omega) (by omega)
      ·rintro i _ again hi rfl ih
       have hy:=OO rK hi
       have hm:(aU v)[i]∈aU v:=ak1 hi
       have hs:=Pk rK hi
       rw[aC hi] at hy
       generalize (aU v)[i]=y at hy hm hs
       have hlo:tN (vPl v) (ai v) y:=hv.lines y hm
       have hye:=iO hlo.ext
       have e4:oy y.2.2.2.2.2.2.2.1=some (y.2.2.2.2.2.2.2.1.map fW,()):=JY hye.1 fun x h=>(hye.2 x h).1
       have hlen:((upto rK (aU v) i)).length=(aU v).length:=Oc _ _ _
       have e:oH (((aU v).length:Int),(i:Int),[],[],0,0,0,false,[],[],[],n,v.2.1,d,vPl v,dQ v,lM v,ai v,(bF v).map fW,upto rK (aU v) i,()) again=again (((aU v).length:Int),((i+1:Nat):Int),[],[],0,0,0,false,[],[],[],n,v.2.1,d,vPl v,dQ v,lM v,ai v,(bF v).map fW,upto rK (aU v) (i+1),()):=by
        unfold oH
        dsimp only
        rw[aD (by omega),hlen,aH (by simp only[ajK,amI];omega),akq,hy,amq,Pt hlo.q,amq,e4,amq]
        dsimp only
        rw[aH (by simp only[ajK,amI];omega),amq,alb,hlen,aH (by simp only[ajK,amI];omega),akY (by omega),amq,az (by omega) (by omega),List.set_set]
        dsimp only
        rw[show ((y.1,y.2.1,y.2.2.1,RW y.2.2.2.1,y.2.2.2.2.1,y.2.2.2.2.2.1,y.2.2.2.2.2.2.1,List.map fW y.2.2.2.2.2.2.2.1,y.2.2.2.2.2.2.2.2):au)=rK y from rfl,hs]
        rfl
       rw[e]
       exact ih _ rfl
      ·rintro _ again rfl
       unfold oH
       dsimp only
       rw[aE (by omega),Om]
     rw[loop _ (by rw[ake];with_reducible apply FJ;repeat (with_reducible first | exact amn | apply CR)),aF]
     dsimp only
     rw[show ((n,v.2.1,d,vPl v,dQ v,lM v,ai v,List.map rK (aU v),List.map fW (bF v)):ah)=Kb v n d from rfl,oY,amq]
     dsimp only
     by_cases h1:cK (Kb v n d)=0
     ·rw[amP (by simpa using h1),show (cK (Kb v n d) != 0)=false by simpa using h1,amD]
     ·rw[amQ h1,show (cK (Kb v n d) != 0)=true by simpa using h1,amE]
      rfl
 ·rw[amQ h0,show (cK v != 0)=true by simpa using h0,amE]
  rfl
end Go.Md
namespace Go.Md
open Go.Dn
theorem adn (l:List ax) (hl:l.length≤1000):kI l l=some (true,()):=by
 unfold kI
 rw[show (((List.length l:Nat):Int) != ((List.length l:Nat):Int))=false by simp,amD]
 have loop:∀ f,l.length<f→iter f ((l,l,(l.length:Int),(0:Int),()):lC) lD=some (Sum.inr ()):=by
  intro f hf
  refine aZ (Inv:=fun i X=>X=(l,l,(l.length:Int),(i:Int),())) l.length (fun r=>r=some (Sum.inr ())) ?_ ?_ f 0 _ rfl (by omega) (by omega)
  ·rintro i _ again hi rfl ih
   unfold lD
   dsimp only
   rw[aD (by omega),bf,aC hi,amq,amq]
   simp only[amB,ajM,ajW,amD]
   rw[az (by omega) (by omega)]
   exact ih _ rfl
  ·rintro _ again rfl
   unfold lD
   dsimp only
   rw[aE (by omega)]
 rw[loop _ (by with_reducible apply FJ;repeat (with_reducible first | exact amn | apply CR)),aF]
theorem ahq (l:List aB) (hl:l.length≤1000):n9 l l=some (true,()):=by
 unfold n9
 rw[show (((List.length l:Nat):Int) != ((List.length l:Nat):Int))=false by simp,amD]
 have loop:∀ f,l.length<f→iter f ((l,l,(l.length:Int),(0:Int),()):lQ) lX=some (Sum.inr ()):=by
  intro f hf
  refine aZ (Inv:=fun i X=>X=(l,l,(l.length:Int),(i:Int),())) l.length (fun r=>r=some (Sum.inr ())) ?_ ?_ f 0 _ rfl (by omega) (by omega)
  ·rintro i _ again hi rfl ih
   unfold lX
   dsimp only
   rw[aD (by omega),bf,aC hi,amq,amq]
   simp only[amB,ajM,ajW,amD]
   rw[az (by omega) (by omega)]
   exact ih _ rfl
  ·rintro _ again rfl
   unfold lX
   dsimp only
   rw[aE (by omega)]
 rw[loop _ (by with_reducible apply FJ;repeat (with_reducible first | exact amn | apply CR)),aF]
theorem ah1 {v:ah} (h:cK v=0):Fg v v=some (true,()):=by
 have hv:=gh h
 have hln:0<(aU v).length∧(aU v).length≤500:=hv.ln
 have hrn:0<(ai v).length∧(ai v).length≤20:=hv.rn
 have hx:(bF v).length≤20:=(iO hv.ext).1
 unfold Fg
 simp only[amB,ajW,amD,amC]
 have loop:∀ f,(aU v).length<f→iter f ((aU v,((aU v).length:Int),(0:Int),v.1,v.2.1,v.2.2.1,v.2.2.2.1,v.2.2.2.2.1,v.2.2.2.2.2.1,v.2.2.2.2.2.2.1,v.2.2.2.2.2.2.2.1,v.2.2.2.2.2.2.2.2,v.1,v.2.1,v.2.2.1,v.2.2.2.1,v.2.2.2.2.1,v.2.2.2.2.2.1,v.2.2.2.2.2.2.1,v.2.2.2.2.2.2.2.1,v.2.2.2.2.2.2.2.2,()):AB) Gr=some (Sum.inr (v.1,v.2.1,v.2.2.1,v.2.2.2.1,v.2.2.2.2.1,v.2.2.2.2.2.1,v.2.2.2.2.2.2.1,v.2.2.2.2.2.2.2.1,v.2.2.2.2.2.2.2.2,v.1,v.2.1,v.2.2.1,v.2.2.2.1,v.2.2.2.2.1,v.2.2.2.2.2.1,v.2.2.2.2.2.2.1,v.2.2.2.2.2.2.2.1,v.2.2.2.2.2.2.2.2,())):=by
  intro f hf
  refine aZ (Inv:=fun i X=>X=((aU v,((aU v).length:Int),(i:Int),v.1,v.2.1,v.2.2.1,v.2.2.2.1,v.2.2.2.2.1,v.2.2.2.2.2.1,v.2.2.2.2.2.2.1,v.2.2.2.2.2.2.2.1,v.2.2.2.2.2.2.2.2,v.1,v.2.1,v.2.2.1,v.2.2.2.1,v.2.2.2.2.1,v.2.2.2.2.2.1,v.2.2.2.2.2.2.1,v.2.2.2.2.2.2.2.1,v.2.2.2.2.2.2.2.2,()):AB)) (aU v).length (fun r=>r=some (Sum.inr (v.1,v.2.1,v.2.2.1,v.2.2.2.1,v.2.2.2.2.1,v.2.2.2.2.2.1,v.2.2.2.2.2.2.1,v.2.2.2.2.2.2.2.1,v.2.2.2.2.2.2.2.2,v.1,v.2.1,v.2.2.1,v.2.2.2.1,v.2.2.2.2.1,v.2.2.2.2.2.1,v.2.2.2.2.2.2.1,v.2.2.2.2.2.2.2.1,v.2.2.2.2.2.2.2.2,()))) ?_ ?_ f 0 _ rfl (by omega) (by omega)
  ·rintro i _ again hi rfl ih
   have hy:(aU v)[i]? =some (aU v)[i]:=aC hi
   have hm:(aU v)[i]∈aU v:=ak1 hi
   generalize (aU v)[i]=y at hy hm
   have hlo:tN (vPl v) (ai v) y:=hv.lines y hm
   have hye:=iO hlo.ext
   unfold Gr
   dsimp only
   rw[aD (by omega),bf,hy,amq,amq]
   simp only[amB,ajM,ajW,amD,amC]
   rw[adn _ (by omega),amq]
   simp only[ajW,amD]
   rw[az (by omega) (by omega)]
   exact ih _ rfl
  ·rintro _ again rfl
   unfold Gr
   dsimp only
   rw[aE (by omega)]
 rw[loop _ (by with_reducible apply FJ;repeat (with_reducible first | exact amn | apply CR)),aF]
 dsimp only
 rw[ahq _ (by show (ai v).length≤_;omega),amq]
 simp only[amE]
 rw[adn _ (by show (bF v).length≤_;omega),amq]
theorem Zz {v:ah} (h0:cK v=0) {f:Int} (h:fH v= .inl f):f≠0:=by
 unfold fH at h
 rcases sE h0 with ⟨lines,s,h1,_⟩ | ⟨g,hg,h1,_⟩
 ·rw[h1] at h
  dsimp only at h
  cases ha:bh (qX s) with
  | true=>rw[ha,amE] at h;cases h
  | false=>rw[ha,amD] at h;cases h;omega
 ·rw[h1] at h;cases h;exact hg
end Go.Md
namespace Go.Md
open Go.Dn
theorem yu {n r:Nat} (h:0<r):n<n+r:=by omega
theorem dw {n a r:Nat} (h:n<r):n<a+r:=by omega
theorem WH {d:aj} (h:aY d):(eg d).natAbs<4294967296 ^ 99:=by
 unfold eg
 have h1:=h.1
 rw[akd]
 have h2:((10:Int) ^ (9 - d.2).toNat).natAbs≤10 ^ 9:=by
  rw[akf]
  exact amh (by decide) (by have:=h.2.1;omega)
 have h3:=Nat.mul_le_mul h1 h2
 have h4:(1000000000000000*10 ^ 9:Nat)<4294967296 ^ 99:=by
  have:=amh (n:=4294967296) (by decide) (show 3≤99 by decide)
  omega
 omega
theorem KR {d:aj} (h:aY d):yb d=some (W (eg d),()):=by
 obtain⟨h1,h2,h3⟩:=h
 unfold yb
 rw[B6 d 9 (by omega) (by omega) (by omega) (by omega) (by omega),amq]
 rfl
theorem oE {out:List bz} {k:Int} {n:Bys} {a b:aj} (ha:aY a) (hb:aY b) (hl:out.length≤1000):
 er out k n a b=some (if eg a=eg b then out else out++[(k,n,a,b)],()):=by
 unfold er
 rw[KR ha,amq,KR hb,amq,u5 _ _ (WH ha) (WH hb),amq]
 dsimp only
 by_cases h:eg a=eg b
 ·rw[amQ h,h,Int.sub_self];rfl
 ·rw[amP h,show ((eg a - eg b).sign==0)=false by
   rw[amz];intro h0;exact h (by have:=akm.1 h0;omega),amD,aH (cr (by omega) (by omega))]
theorem JF (l:List aj) (hl:l.length≤1000):dD l=some (cT (fun _ d=>if aY d then 0 else 1) 0 l,()):=by
 unfold dD
 have loop:=La (f:=jF) (fun i=>(l,(l.length:Int),(i:Int),())) l (fun _ d=>if aY d then 0 else 1) () (by
  intro i y again hy
  have hi:=(akS.1 hy).1
  unfold jF
  dsimp only
  rw[aD (by omega),bf,hy,amq,iu,amq]
  dsimp only
  by_cases hd:aY y
  ·rw[amQ hd,zne,amD,amQ rfl,az (by omega) (by omega)];rfl
  ·rw[amP hd,show ((1:Int) != 0)=true from rfl,amE,amP (by decide)]) (by
  intro again
  unfold jF
  dsimp only
  rw[aE (by omega)]) l 0 (List.length l+(Int.natAbs ((List.length l:Int))+(Int.natAbs (0:Int)+2))) rfl (by omega) (by omega)
 have loop':iter (X:=mE) (β:=mF) (List.length l+(Int.natAbs ((List.length l:Int))+(Int.natAbs (0:Int)+2))) (l,(List.length l:Int),0,()) jF=_:=loop
 rw[loop']
 generalize cT (fun _ d=>if aY d then 0 else 1) 0 l=s
 exact Xc s ()
theorem uI {l:List aj} (hl:l.length≤1000) (h:∀ d∈l,aY d):dD l=some (0,()):=by
 rw[JF l hl]
 have:∀ (l:List aj) (i:Nat),(∀ d∈l,aY d)→cT (fun _ d=>if aY d then (0:Int) else 1) i l=0:=by
  intro l
  induction l with
  | nil=>intro _ _;rfl
  | cons a l ih=>
   intro i h
   simp only[cT]
   rw[amQ (h a alk),amQ rfl]
   exact ih _ fun d hd=>h d (alj _ hd)
 rw[this l 0 h]
theorem H8 {l:List aj} (hl:l.length≤1000) (h:∃ d∈l,¬aY d):dD l=some (1,()):=by
 rw[JF l hl]
 have:∀ (l:List aj) (i:Nat),(∃ d∈l,¬aY d)→cT (fun _ d=>if aY d then (0:Int) else 1) i l=1:=by
  intro l
  induction l with
  | nil=>rintro _ ⟨d,hd,_⟩;cases hd
  | cons a l ih=>
   rintro i ⟨d,hd,hn⟩
   simp only[cT]
   by_cases ha:aY a
   ·rw[amQ ha,amQ rfl]
    rcases ali.1 hd with rfl | hd
    ·exact absurd ha hn
    ·exact ih _ ⟨d,hd,hn⟩
   ·rw[amP ha,amP (by decide)]
 rw[this l 0 h]
structure Kh (l:List ak):Prop where
 len:l.length≤20
 nm:∀ x∈l,iC x.1=true
 asc:Asc (·.1) l
 dec:∀ x∈l,aY x.2.1∧aY x.2.2
def bV (t:bP):List aj:=[t.1,t.2.1,t.2.2.1,t.2.2.2.1,t.2.2.2.2]
theorem afv {t:bP} (l:List ak) (h:∃ d∈bV t,¬aY d):jr t l=some (1,()):=by
 unfold jr
 rw[show [t.1,t.2.1,t.2.2.1,t.2.2.2.1,t.2.2.2.2]=bV t from rfl,H8 (by simp[bV]) h,amq]
 rfl
theorem ahi {t:bP} {l:List ak} (h:∀ d∈bV t,aY d) (hl:Kh l):jr t l=some (0,()):=by
 have hll:=hl.len
 unfold jr
 rw[show [t.1,t.2.1,t.2.2.1,t.2.2.2.1,t.2.2.2.2]=bV t from rfl,uI (by simp[bV]) h,amq]
 dsimp only
 rw[zne,amD,aE (by omega)]
 have loop:∀ f,l.length<f→iter f ((l,l,(l.length:Int),(0:Int),()):ki) gB=some (Sum.inr ()):=by
  intro f hf
  refine aZ (Inv:=fun i X=>X=((l,l,(l.length:Int),(i:Int),()):ki)) l.length (fun r=>r=some (Sum.inr ())) ?_ ?_ f 0 _ rfl (by omega) (by omega)
  ·rintro i _ again hi rfl ih
   have hy:l[i]? =some l[i]:=aC hi
   have hm:l[i]∈l:=ak1 hi
   generalize l[i]=y at hy hm
   have hd:=hl.dec y hm
   have hck:dD [y.2.1,y.2.2]=some (0,()):=uI (by simp) (by intro d hd2;rcases ali.1 hd2 with rfl | hd2;exact hd.1;rw[alx.1 hd2];exact hd.2)
   unfold gB
   dsimp only
   rw[aD (by omega),bf,hy,amq,qD,amq]
   dsimp only
   rw[hl.nm y hm,ajW,amD,hck,az (n:=(i:Int)+1) (by omega) (by omega)]
   cases i with
   | zero=>
    rw[aE (by omega),amq]
    exact ih _ rfl
   | succ j=>
    have hp:l[j]? =some l[j]:=aC (by omega)
    have hlt:Op.bytesLess (l[j]).1 y.1=true:=hl.asc j (j+1) _ _ (by omega) hp hy
    rw[aD (by omega),az (by omega) (by omega),show ((j+1:Nat):Int) - 1=(j:Int) by omega,bf,hp,amq]
    have h1:Op.bytesLess y.1 (l[j]).1=false:=by
     cases hb:Op.bytesLess y.1 (l[j]).1 with
     | false=>rfl
     | true=>exact absurd (adY hlt) (by rw[hb];simp)
    have h2:(y.1==(l[j]).1)=false:=by
     rw[amz];intro he;rw[he] at hlt;rw[lT] at hlt;cases hlt
    rw[h1,h2,ajZ,amD,amq]
    exact ih _ rfl
  ·rintro _ again rfl
   unfold gB
   dsimp only
   rw[aE (by omega)]
 rw[loop _ (by with_reducible apply yu;repeat (with_reducible first | exact amn | apply dw)),aF]
abbrev SMap:=List (Bys×ak)
def cq (m:SMap) (l:List ak):SMap:=l.foldl (fun m x=>vi (k:= .str) (v:=aL) m x.1 x) m
def ais (m:SMap):Prop:=∀ n x,jP (k:= .str) (v:=aL) m n=some x→aY (show ak from x).2.1∧aY (show ak from x).2.2
theorem KX:∀ {l:List ak} {m:SMap},(∀ x∈l,aY x.2.1∧aY x.2.2)→ais m→ais (cq m l)
 | [],_,_,h=>h
 | y::l,m,hl,h=>by
  refine KX (l:=l) (fun x hx=>hl x (alj _ hx)) fun n x hx=> ?_
  have e:=Y6 (k:= .str) (v:=aL) ae0 m y.1 y n
  rw[e] at hx
  cases hb:Ty.beq .str y.1 n with
  | true=>rw[hb,amE] at hx;cases hx;exact hl y alk
  | false=>rw[hb,amD] at hx;exact h n x hx
theorem we {l:List ak} {i:Nat} (h:i<l.length) (m:SMap):cq m (l.take (i+1))=vi (k:= .str) (v:=aL) (cq m (l.take i)) (l[i]).1 l[i]:=by
 have snoc:∀ (a:List ak) (x:ak),cq m (a++[x])=vi (k:= .str) (v:=aL) (cq m a) x.1 x:=fun a x=>akJ
 rw[alK,aC h]
 exact snoc _ _
theorem ah5 (v:ah) (l:List ak) (hl:l.length≤20) (sl:List bz) (A:List bZ) (f:Nat) (hf:l.length<f) (r:Option zw) (hr:r=iter f ((some 0,([]:List Bys),l,(l.length:Int),(0:Int),v.1,v.2.1,v.2.2.1,v.2.2.2.1,v.2.2.2.2.1,v.2.2.2.2.2.1,v.2.2.2.2.2.2.1,v.2.2.2.2.2.2.2.1,v.2.2.2.2.2.2.2.2,sl,([]:SMap),([]:SMap),A,()):tK) ug):
 r=some (Sum.inr (some 0,l.map (·.1),v.1,v.2.1,v.2.2.1,v.2.2.2.1,v.2.2.2.2.1,v.2.2.2.2.2.1,v.2.2.2.2.2.2.1,v.2.2.2.2.2.2.2.1,v.2.2.2.2.2.2.2.2,sl,cq [] l,([]:SMap),A,())):=by
 rw[hr]
 refine aZ (Inv:=fun i X=>X=((some 0,(l.take i).map (·.1),l,(l.length:Int),(i:Int),v.1,v.2.1,v.2.2.1,v.2.2.2.1,v.2.2.2.2.1,v.2.2.2.2.2.1,v.2.2.2.2.2.2.1,v.2.2.2.2.2.2.2.1,v.2.2.2.2.2.2.2.2,sl,cq [] (l.take i),([]:SMap),A,()):tK)) l.length (fun r=>r=some (Sum.inr (some 0,l.map (·.1),v.1,v.2.1,v.2.2.1,v.2.2.2.1,v.2.2.2.2.1,v.2.2.2.2.2.1,v.2.2.2.2.2.2.1,v.2.2.2.2.2.2.2.1,v.2.2.2.2.2.2.2.2,sl,cq [] l,([]:SMap),A,()))) ?_ ?_ f 0 _ rfl (by omega) (by omega)
 ·rintro i _ again hi rfl ih
  have e:ug (some 0,(l.take i).map (·.1),l,(l.length:Int),(i:Int),v.1,v.2.1,v.2.2.1,v.2.2.2.1,v.2.2.2.2.1,v.2.2.2.2.2.1,v.2.2.2.2.2.2.1,v.2.2.2.2.2.2.2.1,v.2.2.2.2.2.2.2.2,sl,cq [] (l.take i),([]:SMap),A,()) again=again (some 0,(l.take (i+1)).map (·.1),l,(l.length:Int),((i+1:Nat):Int),v.1,v.2.1,v.2.2.1,v.2.2.2.1,v.2.2.2.2.1,v.2.2.2.2.2.1,v.2.2.2.2.2.2.1,v.2.2.2.2.2.2.2.1,v.2.2.2.2.2.2.2.2,sl,cq [] (l.take (i+1)),([]:SMap),A,()):=by
   have hln:((l.take i).map (·.1)).length≤20:=by rw[ak5,alc];omega
   unfold ug
   dsimp only
   rw[aD (by omega),bf,aC hi,amq,aH (cr (by omega) (by omega)),az (by omega) (by omega),we hi,alK,aC hi,ald]
   rfl
  rw[e]
  exact ih _ rfl
 ·rintro _ again rfl
  unfold ug
  dsimp only
  rw[aE (by omega),alN (alZ _)]
theorem aa7 (v:ah) (l:List ak) (hl:l.length≤20) (nm:List Bys) (hn:nm.length≤20) (M:SMap) (sl:List bz) (A:List bZ) (f:Nat) (hf:l.length<f) (r:Option zE) (hr:r=iter f ((nm,(l.length:Int),(0:Int),v.1,v.2.1,v.2.2.1,v.2.2.2.1,v.2.2.2.2.1,v.2.2.2.2.2.1,v.2.2.2.2.2.2.1,v.2.2.2.2.2.2.2.1,v.2.2.2.2.2.2.2.2,sl,l,M,([]:SMap),A,()):tW) s7):
 r=some (Sum.inr (nm++l.map (·.1),v.1,v.2.1,v.2.2.1,v.2.2.2.1,v.2.2.2.2.1,v.2.2.2.2.2.1,v.2.2.2.2.2.2.1,v.2.2.2.2.2.2.2.1,v.2.2.2.2.2.2.2.2,sl,M,cq [] l,A,())):=by
 rw[hr]
 refine aZ (Inv:=fun i X=>X=((nm++(l.take i).map (·.1),(l.length:Int),(i:Int),v.1,v.2.1,v.2.2.1,v.2.2.2.1,v.2.2.2.2.1,v.2.2.2.2.2.1,v.2.2.2.2.2.2.1,v.2.2.2.2.2.2.2.1,v.2.2.2.2.2.2.2.2,sl,l,M,cq [] (l.take i),A,()):tW)) l.length (fun r=>r=some (Sum.inr (nm++l.map (·.1),v.1,v.2.1,v.2.2.1,v.2.2.2.1,v.2.2.2.2.1,v.2.2.2.2.2.1,v.2.2.2.2.2.2.1,v.2.2.2.2.2.2.2.1,v.2.2.2.2.2.2.2.2,sl,M,cq [] l,A,()))) ?_ ?_ f 0 _ (by rw[List.take_zero,alg,akx];rfl) (by omega) (by omega)
 ·rintro i _ again hi rfl ih
  have e:s7 (nm++(l.take i).map (·.1),(l.length:Int),(i:Int),v.1,v.2.1,v.2.2.1,v.2.2.2.1,v.2.2.2.2.1,v.2.2.2.2.2.1,v.2.2.2.2.2.2.1,v.2.2.2.2.2.2.2.1,v.2.2.2.2.2.2.2.2,sl,l,M,cq [] (l.take i),A,()) again=again (nm++(l.take (i+1)).map (·.1),(l.length:Int),((i+1:Nat):Int),v.1,v.2.1,v.2.2.1,v.2.2.2.1,v.2.2.2.2.1,v.2.2.2.2.2.1,v.2.2.2.2.2.2.1,v.2.2.2.2.2.2.2.1,v.2.2.2.2.2.2.2.2,sl,l,M,cq [] (l.take (i+1)),A,()):=by
   have hln:(nm++(l.take i).map (·.1)).length≤40:=by rw[ak2,ak5,alc];omega
   unfold s7
   dsimp only
   rw[aD (by omega),aH (by simp only[ajK,amI];omega),akq,aC hi,amq,aH (cr (by omega) (by omega)),az (by omega) (by omega),we hi,alK,aC hi,ald,akw]
   rfl
  rw[e]
  exact ih _ rfl
 ·rintro _ again rfl
  unfold s7
  dsimp only
  rw[aE (by omega),alN (alZ _)]
end Go.Md
namespace Go.Md
open Go.Dn
theorem JM (l:List Bys):(Go.Lib.compact l).length≤l.length:=by
 unfold Go.Lib.compact Go.Lib.compactUpTo
 rw[ak5]
 have:=ak4 (Go.Lib.keeps l.toArray) (List.range l.length)
 rwa [ak9] at this
theorem ahZ {v:ah} (h:cK v=0):∀ r∈ai v,iC r.1=true:=by
 have h1:nC (ai v)=0:=by
  unfold cK at h
  split at h
  ·omega
  split at h
  ·omega
  split at h
  ·omega
  split at h
  ·omega
  split at h
  ·omega
  split at h
  ·rename_i h2;exact absurd h h2
  rename_i h2
  exact aj2.1 h2
 unfold nC at h1
 split at h1
 ·omega
 split at h1
 ·omega
 intro r hr
 obtain⟨i,hi⟩:=alo.1 hr
 have h2:=uV h1 i r hi
 unfold Ip at h2
 split at h2
 ·omega
 rename_i h3
 simpa using h3
theorem Vi {v:ah} (hv:jW v) {z:Int} (hz:ic z=true):aY (BA v z):=by
 have h:=gp.1 hz
 have hp:0≤vPl v∧vPl v≤4:=hv.pl
 have:=nA
 exact⟨by show z.natAbs≤_;omega,hp.1,by show vPl v≤9;omega⟩
theorem ahC {v:ah} (hv:jW v) {s:ShZ} (h:bh (qX s)=true):∀ d∈bV (cL v s),aY d:=by
 have ha:∀ z∈qX s,ic z=true:=akt.1 h
 intro d hd
 have:∃ z∈qX s,d=BA v z:=by
  unfold bV cL at hd
  simp only[ali,List.not_mem_nil,or_false] at hd
  unfold qX
  rcases hd with rfl | rfl | rfl | rfl | rfl
  ·exact⟨_,by simp,rfl⟩
  ·exact⟨_,by simp,rfl⟩
  ·exact⟨s.nets.sum+s.am.sum,by simp,rfl⟩
  ·exact⟨s.taxes.sum,by simp,rfl⟩
  ·exact⟨s.nets.sum+s.am.sum+s.taxes.sum,by simp,rfl⟩
 obtain⟨z,hz,rfl⟩:=this
 exact Vi hv (ha z hz)
theorem XY {v:ah} (h0:cK v=0) {s:ShZ} (hs:SOk v s):Kh (ew v s):=by
 have hv:=gh h0
 have hrn:0<(ai v).length∧(ai v).length≤20:=hv.rn
 have mem:∀ x∈ew v s,∃ k,k<(ai v).length∧x=wK v s k:=by
  intro x hx
  obtain⟨k,hk,rfl⟩:=alp.1 hx
  exact⟨k,alv.1 (List.mem_filter.1 hk).1,rfl⟩
 have name:∀ k,k<(ai v).length→∃ r,(ai v)[k]? =some r∧(wK v s k).1=r.1:=by
  intro k hk
  refine⟨(ai v)[k],aC hk, ?_⟩
  unfold wK
  rw[akK,aC hk]
  rfl
 refine⟨?_, ?_, ?_, ?_⟩
 ·unfold ew
  rw[ak5]
  have:=ak4 (fun k=>s.fl.contains k) (List.range (ai v).length)
  rw[ak9] at this
  omega
 ·intro x hx
  obtain⟨k,hk,rfl⟩:=mem x hx
  obtain⟨r,hr,e⟩:=name k hk
  rw[e]
  exact ahZ h0 r (alr hr)
 ·intro i j x y hij hx hy
  unfold ew at hx hy
  rw[akT] at hx hy
  have hpw:(((List.range (ai v).length).filter fun k=>s.fl.contains k)).Pairwise (· < ·):=List.Pairwise.sublist List.filter_sublist List.pairwise_lt_range
  cases hi:((List.range (ai v).length).filter fun k=>s.fl.contains k)[i]? with
  | none=>rw[hi] at hx;cases hx
  | some a=>
   cases hj:((List.range (ai v).length).filter fun k=>s.fl.contains k)[j]? with
   | none=>rw[hj] at hy;cases hy
   | some b=>
    rw[hi] at hx
    rw[hj] at hy
    cases hx
    cases hy
    obtain⟨hi1,hi2⟩:=akS.1 hi
    obtain⟨hj1,hj2⟩:=akS.1 hj
    have hab:a<b:=by
     rw[← hi2, ← hj2]
     exact alC.1 hpw i j hi1 hj1 hij
    have hbn:b<(ai v).length:=alv.1 (List.mem_filter.1 (alr hj)).1
    obtain⟨p,hp,ep⟩:=name a (by omega)
    obtain⟨q,hq,eq⟩:=name b hbn
    show Op.bytesLess (wK v s a).1 (wK v s b).1=true
    rw[ep,eq]
    exact hv.asc a b p q hab hp hq
 ·intro x hx
  obtain⟨k,hk,rfl⟩:=mem x hx
  have h1:ic (atB s.br k)=true:=akt.1 hs.bs _ (alr (fy s.br hk))
  have h2:ic (rL v s.br k)=true:=by
   have ht:=hs.tx
   rw[hs.txe] at ht
   unfold cX at ht
   exact akt.1 ht _ (alq (alv.2 hk))
  exact⟨Vi hv h1,Vi hv h2⟩
def bX (out:List bz) (k:Int) (a b:aj):List bz:=if eg a=eg b then out else out++[(k,[],a,b)]
theorem iG (out:List bz) (k:Int) (a b:aj):(bX out k a b).length≤out.length+1:=by
 unfold bX;split<;>simp
def oN (t r:bP):List bz:=bX (bX (bX (bX (bX [] 1 t.1 r.1) 2 t.2.1 r.2.1) 3 t.2.2.1 r.2.2.1) 4 t.2.2.2.1 r.2.2.2.1) 5 t.2.2.2.2 r.2.2.2.2
theorem D8 {v:ah} {s:ShZ} (h:fH v= .inr s):oL v= .inr s:=by
 unfold fH at h
 cases hs:oL v with
 | inl f=>rw[hs] at h;cases h
 | inr t=>
  rw[hs] at h
  dsimp only at h
  cases ha:bh (qX t) with
  | false=>rw[ha] at h;cases h
  | true=>rw[ha,amE] at h;cases h;rfl
theorem Qt {v:ah} {s:ShZ} (h:fH v= .inr s):bh (qX s)=true:=by
 unfold fH at h
 cases hs:oL v with
 | inl f=>rw[hs] at h;cases h
 | inr t=>
  rw[hs] at h
  dsimp only at h
  cases ha:bh (qX t) with
  | false=>rw[ha] at h;cases h
  | true=>rw[ha,amE] at h;cases h;exact ha
end Go.Md
namespace Go.Md
open Go.Dn
def GC (l:List ak) (i:Nat) (y:ak):Bool:=match i with
 | 0=>false
 | i+1=>match l[i]? with
  | some p=>Op.bytesLess y.1 p.1||y.1==p.1
  | none=>false
def tT (l:List ak) (i:Nat) (x:ak):Int:=if iC x.1=false then 5 else if GC l i x=true then 8 else if aY x.2.1∧aY x.2.2 then 0 else 1
def kj (t:bP) (l:List ak):Int:=if ∀ d∈bV t,aY d then (if 20<l.length then 2 else cT (tT l) 0 l) else 1
theorem ah7 (a b:aj):dD [a,b]=some (if aY a∧aY b then 0 else 1,()):=by
 by_cases h:aY a∧aY b
 ·rw[amQ h]
  exact uI (by simp) (by intro d hd;rcases ali.1 hd with rfl | hd;exact h.1;rw[alx.1 hd];exact h.2)
 ·rw[amP h]
  refine H8 (by simp) ?_
  by_cases ha:aY a
  ·exact⟨b,by simp,fun hb=>h ⟨ha,hb⟩⟩
  ·exact⟨a,by simp,ha⟩
theorem ahr (t:bP) (l:List ak):jr t l=some (kj t l,()):=by
 unfold kj
 by_cases hT:∀ d∈bV t,aY d
 ·rw[amQ hT]
  unfold jr
  rw[show [t.1,t.2.1,t.2.2.1,t.2.2.2.1,t.2.2.2.2]=bV t from rfl,uI (by simp[bV]) hT,amq]
  dsimp only
  rw[zne,amD]
  by_cases hl:20<l.length
  ·rw[aD (by omega),amQ hl]
  ·rw[aE (by omega),amP hl]
   have loop:=La (f:=gB) (fun i=>(l,l,(l.length:Int),(i:Int),())) l (tT l) () (by
    intro i y again hy
    have hi:=(akS.1 hy).1
    unfold gB
    dsimp only
    rw[aD (by omega),bf,hy,amq,qD,amq]
    dsimp only
    unfold tT
    cases hn:iC y.1 with
    | false=>simp
    | true=>
     rw[ajW,amD,amP (show ¬(true=false) by simp),ah7]
     cases i with
     | zero=>
      rw[aE (by omega),amq]
      dsimp only
      rw[show GC l 0 y=false from rfl,amP (show ¬(false=true) by simp)]
      by_cases hd:aY y.2.1∧aY y.2.2
      ·rw[amQ hd,zne,amD,amQ rfl,az (by omega) (by omega)]
       rfl
      ·rw[amP hd,show ((1:Int) != 0)=true from rfl,amE,amP (by decide)]
     | succ j=>
      have hp:l[j]? =some l[j]:=aC (by omega)
      rw[aD (by omega),az (by omega) (by omega),show ((j+1:Nat):Int) - 1=(j:Int) by omega,bf,hp,amq]
      have hpl:GC l (j+1) y=(Op.bytesLess y.1 (l[j]).1||y.1==(l[j]).1):=by
       show (match l[j]? with | some p=>Op.bytesLess y.1 p.1||y.1==p.1 | none=>false)=_
       rw[hp]
      rw[hpl]
      cases hb:(Op.bytesLess y.1 (l[j]).1||y.1==(l[j]).1) with
      | true=>rw[amE,amQ rfl,amP (by decide)]
      | false=>
       rw[amD,amP (show ¬(false=true) by simp),amq]
       by_cases hd:aY y.2.1∧aY y.2.2
       ·rw[amQ hd]
        dsimp only
        rw[zne,amD,amQ rfl,az (by omega) (by omega)]
        rfl
       ·rw[amP hd]
        dsimp only
        rw[show ((1:Int) != 0)=true from rfl,amE,amP (by decide)]) (by
    intro again
    unfold gB
    dsimp only
    rw[aE (by omega)]) l 0 (List.length l+(List.length l+(Int.natAbs ((List.length l:Int))+(Int.natAbs (0:Int)+2)))) rfl (by omega) (by omega)
   have loop':iter (X:=ki) (β:=qa) (List.length l+(List.length l+(Int.natAbs ((List.length l:Int))+(Int.natAbs (0:Int)+2)))) (l,l,(List.length l:Int),0,()) gB=_:=loop
   rw[loop']
   generalize cT (tT l) 0 l=s
   exact Xc s ()
 ·rw[amP hT]
  refine afv l ?_
  exact Classical.byContradiction fun h=>hT fun d hd=>Classical.byContradiction fun h2=>h ⟨d,hd,h2⟩
theorem Mw {t:bP} {l:List ak} (h:kj t l=0):(∀ d∈bV t,aY d)∧Kh l:=by
 unfold kj at h
 split at h
 ·rename_i hT
  split at h
  ·omega
  ·rename_i hl
   have hz:∀ i y,l[i]? =some y→iC y.1=true∧GC l i y=false∧aY y.2.1∧aY y.2.2:=by
    intro i y hy
    have h1:=uV h i y hy
    rw[amk] at h1
    unfold tT at h1
    split at h1
    ·omega
    rename_i a1
    split at h1
    ·omega
    rename_i a2
    split at h1
    ·rename_i a3
     exact⟨by simpa using a1,by simpa using a2,a3⟩
    ·omega
   refine⟨hT,by omega,fun x hx=> ?_, ?_,fun x hx=> ?_⟩
   ·obtain⟨i,hi⟩:=alo.1 hx
    exact (hz i x hi).1
   ·have step:∀ i x y,l[i]? =some x→l[i+1]? =some y→Op.bytesLess x.1 y.1=true:=fun i x y hx hy=>by
     have h2:=(hz (i+1) y hy).2.1
     simp only[GC,hx,ajX,amz] at h2
     rcases YL x.1 y.1 with h3 | h3 | h3
     ·exact h3
     ·exact absurd h3.symm h2.2
     ·rw[h2.1] at h3;cases h3
    intro i j x y hij hx hy
    induction j generalizing y with
    | zero=>omega
    | succ j ih=>
     by_cases he:i=j
     ·subst he;exact step i x y hx hy
     ·have hj:j<l.length:=by have:=(akS.1 hy).1;omega
      exact wk (ih l[j] (by omega) (aC hj)) (step j _ y (aC hj) hy)
   ·obtain⟨i,hi⟩:=alo.1 hx
    exact (hz i x hi).2.2
 ·omega
def kL (l:List ak) (n:Bys):Option ak:=l.find? fun x=>x.1==n
theorem YQ {l:List ak} {n:Bys} {x:ak} (h:kL l n=some x):x∈l:=List.mem_of_find?_eq_some h
theorem afV (a:List ak) (x:ak) (n:Bys):kL (a++[x]) n=(kL a n).or (bif x.1==n then some x else none):=by
 unfold kL
 rw[List.find?_append]
 congr 1
theorem LJ:∀ (k:Nat) {l:List ak},l.length=k→Asc (·.1) l→∀ n:Bys,jP (k:= .str) (v:=aL) (cq [] l) n=kL l n
 | 0,l,hl,_,n=>by rw[akG hl];rfl
 | k+1,l,hl,ha,n=>by
  obtain⟨a,x,rfl⟩:∃ a x,l=a++[x]:=by
   have hne:l≠[]:=by intro h;rw[h] at hl;simp at hl
   exact⟨l.dropLast,l.getLast hne,(List.dropLast_concat_getLast hne).symm⟩
  have hal:a.length=k:=by simpa using hl
  have haa:Asc (·.1) a:=fun i j p q hij hp hq=>ha i j p q hij (by rw[akL (akS.1 hp).1];exact hp) (by rw[akL (akS.1 hq).1];exact hq)
  have snoc:cq [] (a++[x])=vi (k:= .str) (v:=aL) (cq [] a) x.1 x:=akJ
  rw[afV,snoc]
  refine (Y6 (k:= .str) (v:=aL) ae0 (cq [] a) x.1 x n).trans ?_
  have ih:=LJ k hal haa n
  cases hb:(x.1==n) with
  | false=>
   have:Ty.beq .str x.1 n=false:=hb
   rw[this,amD,amD,Option.or_none]
   exact ih
  | true=>
   have:Ty.beq .str x.1 n=true:=hb
   rw[this,amE,amE]
   have hno:kL a n=none:=by
    unfold kL
    rw[List.find?_eq_none]
    intro y hy
    obtain⟨i,hi⟩:=alo.1 hy
    have hil:=(akS.1 hi).1
    have hlt:Op.bytesLess y.1 x.1=true:=ha i a.length y x hil (by rw[akL hil];exact hi) (by simp)
    intro he
    rw[show x.1=n from eq_of_beq hb,show y.1=n from eq_of_beq he,lT] at hlt
    cases hlt
   rw[hno];rfl
def KS (out:List bz) (k:Int) (n:Bys) (a b:aj):List bz:=if eg a=eg b then out else out++[(k,n,a,b)]
theorem KV (out:List bz) (k:Int) (n:Bys) (a b:aj):(KS out k n a b).length≤out.length+1:=by
 unfold KS;split<;>simp
def isT (l:List ak) (n:Bys):aj×aj:=((kL l n).map (·.2)).getD ((0,0),(0,0))
def shT (pl:Int) (l:List ak) (n:Bys):aj×aj:=((kL l n).map (·.2)).getD ((0,pl),(0,pl))
def cM (pl:Int) (l m:List ak) (out:List bz) (n:Bys):List bz:=
 KS (KS out 6 n (isT l n).1 (shT pl m n).1) 4 n (isT l n).2 (shT pl m n).2
theorem acz (pl:Int) (l m:List ak) (out:List bz) (n:Bys):(cM pl l m out n).length≤out.length+2:=by
 unfold cM
 have h1:=KV out 6 n (isT l n).1 (shT pl m n).1
 have h2:=KV (KS out 6 n (isT l n).1 (shT pl m n).1) 4 n (isT l n).2 (shT pl m n).2
 omega
theorem NH (pl:Int) (l m:List ak):∀ (ns:List Bys) (out:List bz),(ns.foldl (cM pl l m) out).length≤out.length+2*ns.length
 | [],out=>by simp
 | n::ns,out=>by
  have h1:=acz pl l m out n
  have h2:=NH pl l m ns (cM pl l m out n)
  rw[List.foldl_cons,ak3]
  omega
theorem ahh {l:List ak} (h:∀ x∈l,aY x.2.1∧aY x.2.2) (n:Bys):aY (isT l n).1∧aY (isT l n).2:=by
 unfold isT
 cases hl:kL l n with
 | none=>exact⟨⟨by simp,by simp,by simp⟩,⟨by simp,by simp,by simp⟩⟩
 | some x=>exact h x (YQ hl)
theorem agy {pl:Int} (hp:0≤pl∧pl≤4) {l:List ak} (h:∀ x∈l,aY x.2.1∧aY x.2.2) (n:Bys):aY (shT pl l n).1∧aY (shT pl l n).2:=by
 have hz:aY ((0,pl):aj):=⟨by simp,hp.1,by show pl≤9;omega⟩
 unfold shT
 cases hl:kL l n with
 | none=>exact⟨hz,hz⟩
 | some x=>exact h x (YQ hl)
set_option maxRecDepth 20000 in
theorem aci (ns:List Bys) (hl:ns.length≤40) (pl:Int) (hp:0≤pl∧pl≤4) {l m:List ak} (hL:Kh l) (hM:Kh m) (sl:List bz) (hsl:sl.length≤10) (A:List bZ) (f:Nat) (hf:ns.length<f) (r:Option za)
 (hr:r=iter f ((sl,(ns.length:Int),(0:Int),0,pl,ns,cq [] l,cq [] m,A,()):tV) th):r=some (Sum.inr (ns.foldl (cM pl l m) sl,A,())):=by
 rw[hr]
 refine aZ (Inv:=fun i X=>X=(((ns.take i).foldl (cM pl l m) sl,(ns.length:Int),(i:Int),0,pl,ns,cq [] l,cq [] m,A,()):tV)) ns.length (fun r=>r=some (Sum.inr (ns.foldl (cM pl l m) sl,A,()))) ?_ ?_ f 0 _ rfl (by omega) (by omega)
 ·rintro i _ again hi rfl ih
  have hy:ns[i]? =some ns[i]:=aC hi
  have hfl:=NH pl l m (ns.take i) sl
  rw[alc] at hfl
  have hstep:(ns.take (i+1)).foldl (cM pl l m) sl=cM pl l m ((ns.take i).foldl (cM pl l m) sl) ns[i]:=by
   rw[alK,hy,akJ];rfl
  generalize ns[i]=n at hy hstep
  generalize (ns.take i).foldl (cM pl l m) sl=out at hfl hstep
  have e:th (out,(ns.length:Int),(i:Int),0,pl,ns,cq [] l,cq [] m,A,()) again=again (cM pl l m out n,(ns.length:Int),((i+1:Nat):Int),0,pl,ns,cq [] l,cq [] m,A,()):=by
   have k1:=ahh hL.dec n
   have k2:=agy hp hM.dec n
   have n1:=KV out 6 n (isT l n).1 (shT pl m n).1
   have key:(Option.bind (er out 6 n (isT l n).1 (shT pl m n).1) fun r4=>Option.bind (er r4.1 4 n (isT l n).2 (shT pl m n).2) fun r5=>again (r5.1,(ns.length:Int),w64 ((i:Int)+1),0,pl,ns,cq [] l,cq [] m,A,()))=again (cM pl l m out n,(ns.length:Int),((i+1:Nat):Int),0,pl,ns,cq [] l,cq [] m,A,()):=by
    have g1:er out 6 n (isT l n).1 (shT pl m n).1=some (KS out 6 n (isT l n).1 (shT pl m n).1,()):=oE k1.1 k2.1 (by omega)
    have g2:er (KS out 6 n (isT l n).1 (shT pl m n).1) 4 n (isT l n).2 (shT pl m n).2=some (cM pl l m out n,()):=oE k1.2 k2.2 (by omega)
    rw[g1,amq,g2,amq,az (by omega) (by omega)]
    rfl
   refine Eq.trans ?_ key
   have hg1:=LJ _ rfl hL.asc n
   have hg2:=LJ _ rfl hM.asc n
   unfold th
   dsimp only
   rw[aD (by omega),aH (by simp only[ajK,amI];omega),akq,hy,amq]
   unfold isT shT
   cases h1:jP (k:= .str) (v:=aL) (cq [] l) n with
   | none=>
    cases h2:jP (k:= .str) (v:=aL) (cq [] m) n with
    | none=>
     have f1:kL l n=(none:Option ak):=hg1.symm.trans h1
     have f2:kL m n=(none:Option ak):=hg2.symm.trans h2
     rw[f1,f2]
     simp only[amu,ajV,amE,aF,h1,h2]
     rfl
    | some y=>
     have f1:kL l n=(none:Option ak):=hg1.symm.trans h1
     have f2:kL m n=some (show ak from y):=hg2.symm.trans h2
     rw[f1,f2]
     simp only[amv,ajW,amD,aF,h1,h2]
     rfl
   | some x=>
    cases h2:jP (k:= .str) (v:=aL) (cq [] m) n with
    | none=>
     have f1:kL l n=some (show ak from x):=hg1.symm.trans h1
     have f2:kL m n=(none:Option ak):=hg2.symm.trans h2
     rw[f1,f2]
     simp only[amu,ajV,amE,aF,h1,h2]
     rfl
    | some y=>
     have f1:kL l n=some (show ak from x):=hg1.symm.trans h1
     have f2:kL m n=some (show ak from y):=hg2.symm.trans h2
     rw[f1,f2]
     simp only[amv,ajW,amD,aF,h1,h2]
     rfl
  rw[e]
  refine ih _ ?_
  rw[hstep]
 ·rintro _ again rfl
  unfold th
  dsimp only
  rw[aE (by omega),alN (alZ _)]
def Ef (l m:List ak):List Bys:=Go.Lib.compact ((l.map (·.1)++m.map (·.1)).mergeSort fun x y=>decide (x≤y))
def acM (v:ah) (s:ShZ) (t:bP) (l:List ak):List bz:=(Ef l (ew v s)).foldl (cM (vPl v) l (ew v s)) (oN t (cL v s))
def Hi (v:ah) (t:bP) (l:List ak):List bz×Int×Unit:=
 if cK v≠0 then ([],cK v,()) else match fH v with
  | .inl f=>([],f,())
  | .inr s=>if kj t l≠0 then ([],kj t l,()) else (acM v s t l,0,())
theorem agZ {v:ah} (h0:cK v=0) {s:ShZ} (hz:fH v= .inr s) {T:bP} {l:List ak} (hst:kj T l=0):qS v T l=some (acM v s T l,0,()):=by
 obtain⟨hT,hl⟩:=Mw hst
 have hv:=gh h0
 have hsh:=D8 hz
 have ha:=Qt hz
 have hs:=yH hv hsh
 have hR:=ahC hv ha
 have hL:=XY h0 hs
 have hpl:0≤vPl v∧vPl v≤4:=hv.pl
 rcases sE h0 with ⟨lines,t,h1,_,_,e⟩ | ⟨f,hf,h1,e⟩
 ·rw[hsh] at h1
  cases h1
  have five:∀ d∈bV T,aY d:=hT
  have T1:aY T.1:=hT _ (by simp[bV])
  have T2:aY T.2.1:=hT _ (by simp[bV])
  have T3:aY T.2.2.1:=hT _ (by simp[bV])
  have T4:aY T.2.2.2.1:=hT _ (by simp[bV])
  have T5:aY T.2.2.2.2:=hT _ (by simp[bV])
  have R1:aY (cL v s).1:=hR _ (by simp[bV])
  have R2:aY (cL v s).2.1:=hR _ (by simp[bV])
  have R3:aY (cL v s).2.2.1:=hR _ (by simp[bV])
  have R4:aY (cL v s).2.2.2.1:=hR _ (by simp[bV])
  have R5:aY (cL v s).2.2.2.2:=hR _ (by simp[bV])
  have l1:=iG [] 1 T.1 (cL v s).1
  have l2:=iG (bX [] 1 T.1 (cL v s).1) 2 T.2.1 (cL v s).2.1
  have l3:=iG (bX (bX [] 1 T.1 (cL v s).1) 2 T.2.1 (cL v s).2.1) 3 T.2.2.1 (cL v s).2.2.1
  have l4:=iG (bX (bX (bX [] 1 T.1 (cL v s).1) 2 T.2.1 (cL v s).2.1) 3 T.2.2.1 (cL v s).2.2.1) 4 T.2.2.2.1 (cL v s).2.2.2.1
  have l5:=iG (bX (bX (bX (bX [] 1 T.1 (cL v s).1) 2 T.2.1 (cL v s).2.1) 3 T.2.2.1 (cL v s).2.2.1) 4 T.2.2.2.1 (cL v s).2.2.2.1) 5 T.2.2.2.2 (cL v s).2.2.2.2
  have l0:([]:List bz).length=0:=rfl
  have g1:er [] 1 [] T.1 (cL v s).1=some (bX [] 1 T.1 (cL v s).1,()):=oE T1 R1 (by omega)
  have g2:er (bX [] 1 T.1 (cL v s).1) 2 [] T.2.1 (cL v s).2.1=some (bX (bX [] 1 T.1 (cL v s).1) 2 T.2.1 (cL v s).2.1,()):=oE T2 R2 (by omega)
  have g3:er (bX (bX [] 1 T.1 (cL v s).1) 2 T.2.1 (cL v s).2.1) 3 [] T.2.2.1 (cL v s).2.2.1=some (bX (bX (bX [] 1 T.1 (cL v s).1) 2 T.2.1 (cL v s).2.1) 3 T.2.2.1 (cL v s).2.2.1,()):=oE T3 R3 (by omega)
  have g4:er (bX (bX (bX [] 1 T.1 (cL v s).1) 2 T.2.1 (cL v s).2.1) 3 T.2.2.1 (cL v s).2.2.1) 4 [] T.2.2.2.1 (cL v s).2.2.2.1=some (bX (bX (bX (bX [] 1 T.1 (cL v s).1) 2 T.2.1 (cL v s).2.1) 3 T.2.2.1 (cL v s).2.2.1) 4 T.2.2.2.1 (cL v s).2.2.2.1,()):=oE T4 R4 (by omega)
  have g5:er (bX (bX (bX (bX [] 1 T.1 (cL v s).1) 2 T.2.1 (cL v s).2.1) 3 T.2.2.1 (cL v s).2.2.1) 4 T.2.2.2.1 (cL v s).2.2.2.1) 5 [] T.2.2.2.2 (cL v s).2.2.2.2=some (oN T (cL v s),()):=oE T5 R5 (by omega)
  have hfl:(oN T (cL v s)).length≤10:=by show (bX _ _ _ _).length≤10;omega
  unfold qS
  rw[e,amq]
  dsimp only
  rw[zne,amD,E5 hv lines hs,ha,amE,amq]
  dsimp only
  rw[zne,amD,ahi hT hl,amq]
  dsimp only
  rw[zne,amD,g1,amq,g2,amq,g3,amq,g4,amq,g5,amq]
  dsimp only
  have w1:=fun F hF=>ah5 v l hl.len (oN T (cL v s)) [gS v lines s] F hF _ rfl
  rw[w1 _ (by with_reducible apply dw;with_reducible apply yu;repeat (with_reducible first | exact amn | apply dw)),aF]
  dsimp only
  rw[acF hv lines hs,amq]
  dsimp only
  have hnl:(l.map (·.1)).length≤20:=by rw[ak5];exact hl.len
  have hml:((ew v s).map (·.1)).length≤20:=by rw[ak5];exact hL.len
  have w2:=fun F hF=>aa7 v (ew v s) hL.len (l.map (·.1)) hnl (cq [] l) (oN T (cL v s)) [gS v lines s] F hF _ rfl
  rw[w2 _ (by rw[ak5,ake];with_reducible apply dw;with_reducible apply yu;repeat (with_reducible first | exact amn | apply dw)),aF]
  dsimp only
  generalize hN:List.map (fun x:ak=>x.1) l++List.map (fun x:ak=>x.1) (ew v s)=N
  have hNl:N.length≤40:=by rw[← hN,ak2];omega
  have hsrt:slices_Sort_string N=some (N.mergeSort fun x y=>decide (x≤y),()):=by
   show Ih N=_
   unfold Ih
   rw[amH (by omega),amE]
  rw[hsrt,amq]
  dsimp only
  have hcmp:slices_Compact_string (N.mergeSort fun x y=>decide (x≤y))=some (Go.Lib.compact (N.mergeSort fun x y=>decide (x≤y)),()):=by
   show IA _=_
   unfold IA
   rw[amH (by rw[ak6];omega),amE]
  rw[hcmp,amq]
  dsimp only
  have hcl:(Go.Lib.compact (N.mergeSort fun x y=>decide (x≤y))).length≤40:=by
   have h1:=JM (N.mergeSort fun x y=>decide (x≤y))
   rw[ak6] at h1
   omega
  have w3:=fun F hF=>aci (Go.Lib.compact (N.mergeSort fun x y=>decide (x≤y))) hcl (vPl v) hpl hl hL (oN T (cL v s)) hfl [gS v lines s] F hF _ rfl
  rw[w3 _ (by rw[ake];with_reducible apply dw;with_reducible apply yu;repeat (with_reducible first | exact amn | apply dw)),aF, ← hN]
  rfl
 ·rw[hsh] at h1
  cases h1
theorem ZE (v:ah) (t:bP) (l:List ak):qS v t l=some (Hi v t l):=by
 unfold Hi
 by_cases h0:cK v=0
 ·rw[amP (by simpa using h0)]
  have hv:=gh h0
  cases hz:fH v with
  | inr s=>
   dsimp only
   by_cases hst:kj t l=0
   ·rw[amP (by simpa using hst)]
    exact agZ h0 hz hst
   ·rw[amQ hst]
    have hsh:=D8 hz
    have ha:=Qt hz
    have hs:=yH hv hsh
    rcases sE h0 with ⟨lines,t2,h1,_,_,e⟩ | ⟨f,hf,h1,e⟩
    ·rw[hsh] at h1
     cases h1
     unfold qS
     rw[e,amq]
     dsimp only
     rw[zne,amD,E5 hv lines hs,ha,amE,amq]
     dsimp only
     rw[zne,amD,ahr,amq]
     dsimp only
     rw[show (kj t l != 0)=true by simpa using hst,amE]
    ·rw[hsh] at h1
     cases h1
  | inl f=>
   dsimp only
   unfold fH at hz
   unfold qS
   rcases sE h0 with ⟨lines,s,h1,h2,h3,e⟩ | ⟨g,hg,h1,e⟩
   ·have hs:=yH hv h1
    rw[h1] at hz
    dsimp only at hz
    rw[e,amq]
    dsimp only
    rw[zne,amD,E5 hv lines hs,amq]
    cases ha:bh (qX s) with
    | true=>rw[ha,amE] at hz;cases hz
    | false=>rw[ha,amD] at hz;cases hz;rfl
   ·rw[h1] at hz
    cases hz
    rw[e,amq]
    dsimp only
    rw[show (f != 0)=true by simpa using hg,amE]
 ·rw[amQ h0]
  unfold qS
  rw[Wc h0,amq]
  dsimp only
  rw[show (cK v != 0)=true by simpa using h0,amE]
end Go.Md
