/-
  Each function that the law reaches is as its plain model says, a further part; a copy by its contract. No condition.
-/
import Derived.Test.YtnamfglkolhhgabGreatDoorYw
import Derived.WalkKit
import Derived.LoopN
import Derived.StillTailTactics
set_option linter.all false
set_option maxRecDepth 100000
noncomputable section
namespace Go.Proofs.SeatU
open Go.Dn Go.Md Go.Proofs
def lQ:List CK:=[.val .bool,.own 3 tI]
def CA:List CK:=[.val .bool,.rowR 24]
def zU:List CK:=[.val .bool,.val (.slice tI)]
def kg:ax:=⟨[.val aX,.val .str,.val .bool],[.val tI],fun x=>jM x.1 x.2.1 x.2.2.1⟩
noncomputable def Dt:Cx:=⟨tpr,[(13,dM),(16,er)],[]⟩
theorem CJ:aO Dt [] none Tryz.f12 kg:=by intro x;kernel_rfl
theorem uG:aq tpr 12:=ak Tryz.func12 rfl (by decide)
theorem uL:aD tpr 12 kg:=aG CJ (.cons gw gq (.cons jk ji (.nil _))) aH Tryz.func12
def ou:ax:=⟨[.val tI,.val (.ptr aX),.val (.ptr .str)],[.val .bool],fun x=>rI x.1 x.2.1 x.2.2.1⟩
noncomputable def Ds:Cx:=⟨tpr,[],[]⟩
theorem CI:aO Ds [] none Tryz.f37 ou:=by intro x;kernel_rfl
theorem DJ:aq tpr 37:=ak Tryz.func37 rfl (by decide)
theorem DY:aD tpr 37 ou:=aG CI (.nil _) aH Tryz.func37
def yR:List (Nat×Ann):=[(2,⟨[(0,.val (.slice tI)),(1,.val (.clo 37 (.pair (.ptr aX) (.ptr .str)))),(7,.val tI),(8,.val tI)],[],[],aT _⟩),
 (200002,⟨[],[],[],fun _=>0⟩)]
def lF:ax:=⟨[.val (.slice tI),.val (.clo 37 (.pair (.ptr aX) (.ptr .str)))],[.val tI],fun x=>oo x.1 x.2.1⟩
noncomputable def A4:Cx:=⟨tpr,[(37,ou)],[]⟩
theorem zW:aO A4 yR none Tryz.f72 lF:=by intro x;kernel_rfl
theorem Bb:aq tpr 72:=ak Tryz.func72 rfl (by decide)
theorem Be:aD tpr 72 lF:=aG zW (.cons DY DJ (.nil _)) aH Tryz.func72
def jD:ax:=⟨[.val (.slice tI),.val (.clo 37 (.pair (.ptr aX) (.ptr .str)))],[.val .bool],fun x=>lC x.1 x.2.1⟩
noncomputable def yj:Cx:=⟨tpr,[(72,lF)],[]⟩
theorem xE:aO yj [] none Tryz.f36 jD:=by intro x;kernel_rfl
theorem yo:aq tpr 36:=ak Tryz.func36 rfl (by decide)
theorem yq:aD tpr 36 jD:=aG xE (.cons Be Bb (.nil _)) aH Tryz.func36
def qH:ax:=⟨[.val aX,.val tI,.val .str],[.val .bool],fun x=>pY x.1 x.2.1 x.2.2.1⟩
noncomputable def FM:Cx:=⟨tpr,[(35,ot),(36,jD)],[]⟩
theorem E1:aO FM [] none Tryz.f14 qH:=by intro x;kernel_rfl
theorem F6:aq tpr 14:=ak Tryz.func14 rfl (by decide)
theorem Gp:aD tpr 14 qH:=aG E1 (.cons Ai Ab (.cons yq yo (.nil _))) aH Tryz.func14
def fR:ax:=⟨[.val (.slice aj)],[.row 42 aj],fun x=>bN x.1⟩
noncomputable def yh:Cx:=⟨tpr,[],[]⟩
theorem xD:aO yh [] none Tryz.f38 fR:=by intro x;kernel_rfl
theorem oJ:aq tpr 38:=ak Tryz.func38 rfl (by decide)
theorem jA:aD tpr 38 fR:=aG xD (.nil _) aH Tryz.func38
def iY:ax:=⟨[.val (.slice aL)],[.val (.slice aL)],fun x=>gQ x.1⟩
noncomputable def xz:Cx:=⟨tpr,[],[]⟩
theorem vK:aO xz [] none Tryz.f39 iY:=by intro x;kernel_rfl
theorem xI:aq tpr 39:=ak Tryz.func39 rfl (by decide)
theorem xV:aD tpr 39 iY:=aG vK (.nil _) aH Tryz.func39
def eA:ax:=⟨[.val (.slice aL)],[.row 70 aL],fun x=>dS x.1⟩
noncomputable def vr:Cx:=⟨tpr,[],[]⟩
theorem uC:aO vr [] none Tryz.f39 eA:=by intro x;kernel_rfl
theorem mO:aq tpr 39:=ak Tryz.func39 rfl (by decide)
theorem mP:aD tpr 39 eA:=aG uC (.nil _) aH Tryz.func39
def zN:List (Nat×Ann):=[(3,⟨[(0,.rowR 23824),(7,.rowR 23824),(8,.val tI),(9,.val tI)],[],[.rowC 23824 42 aj],aT _⟩),
 (200003,⟨[(0,.rowR 23824)],[],[.rowC 23824 42 aj],fun _=>0⟩)]
def fJ:ax:=⟨[.val (.slice aj)],[.row 42 aj],fun x=>dW x.1⟩
noncomputable def BR:Cx:=⟨tpr,[(38,fR),(39,iY)],[]⟩
theorem A7:aO BR zN none Tryz.f15 fJ:=by intro x;kernel_rfl
theorem mA:aq tpr 15:=ak Tryz.func15 rfl (by decide)
theorem mF:aD tpr 15 fJ:=aG A7 (.cons jA oJ (.cons xV xI (.nil _))) aH Tryz.func15
def HG:List (Nat×Ann):=[(100006,⟨[(2,.val .str),(3,.ref 3 0),(6,.ref 6 0),(9,.val tI)],[(3,[.val .str,.val .str,.val tI,.val (.slice aj)]),(6,[.val .str,.val .str,.val tI,.own 42 aj])],[],fun _=>0⟩)]
def vj:ax:=⟨[.val aX,.val .str,.val .str],[.val aX,.val tI],fun x=>uR x.1 x.2.1 x.2.2.1⟩
noncomputable def J5:Cx:=⟨tpr,[(12,kg),(13,dM),(14,qH),(15,fJ),(16,er)],[]⟩
theorem I4:aO J5 HG none Tryz.f4 vj:=by intro x;kernel_rfl
theorem KA:aq tpr 4:=ak Tryz.func4 rfl (by decide)
theorem KX:aD tpr 4 vj:=aG I4 (.cons uL uG (.cons gw gq (.cons Gp F6 (.cons mF mA (.cons jk ji (.nil _)))))) aH Tryz.func4
def LB:List (Nat×Ann):=[(4,⟨[(0,.val .str),(23,.val tI),(24,.val tI)],[],[],aT _⟩),
 (200004,⟨[],[],[],fun _=>0⟩)]
def AQ:ax:=⟨[.val .str],[.val .bool],fun x=>GM x.1⟩
noncomputable def P9:Cx:=⟨tpr,[],[]⟩
theorem OB:aO P9 LB none Tryz.f77 AQ:=by intro x;kernel_rfl
theorem QH:aq tpr 77:=ak Tryz.func77 rfl (by decide)
theorem Rc:aD tpr 77 AQ:=aG OB (.nil _) aH Tryz.func77
def vk:ax:=⟨[.val .str],[.val .bool],fun x=>nK x.1⟩
noncomputable def P7:Cx:=⟨tpr,[(77,AQ)],[]⟩
theorem Oz:aO P7 [] none Tryz.f44 vk:=by intro x;kernel_rfl
theorem F8:aq tpr 44:=ak Tryz.func44 rfl (by decide)
theorem Gr:aD tpr 44 vk:=aG Oz (.cons Rc QH (.nil _)) aH Tryz.func44
def nC:ax:=⟨[.val tI,.val tI,.val tI],[.val .bool],fun x=>nM x.1 x.2.1 x.2.2.1⟩
noncomputable def Qb:Cx:=⟨tpr,[],[]⟩
theorem OD:aO Qb [] none Tryz.f135 nC:=by intro x;kernel_rfl
theorem uH:aq tpr 135:=ak Tryz.func135 rfl (by decide)
theorem uM:aD tpr 135 nC:=aG OD (.nil _) aH Tryz.func135
def Cl:ax:=⟨[.val tI],[.val .bool],fun x=>Jx x.1⟩
noncomputable def R1:Cx:=⟨tpr,[(135,nC)],[]⟩
theorem Qm:aO R1 [] none Tryz.f78 Cl:=by intro x;kernel_rfl
theorem Sk:aq tpr 78:=ak Tryz.func78 rfl (by decide)
theorem SB:aD tpr 78 Cl:=aG Qm (.cons uM uH (.nil _)) aH Tryz.func78
def Cg:ax:=⟨[.val tI],[.val .bool],fun x=>Eb x.1⟩
noncomputable def RV:Cx:=⟨tpr,[(78,Cl)],[]⟩
theorem Qh:aO RV [] none Tryz.f45 Cg:=by intro x;kernel_rfl
theorem Sf:aq tpr 45:=ak Tryz.func45 rfl (by decide)
theorem Sw:aD tpr 45 Cg:=aG Qh (.cons SB Sk (.nil _)) aH Tryz.func45
def AP:ax:=⟨[.val tI],[.val .bool],fun x=>GL x.1⟩
noncomputable def P8:Cx:=⟨tpr,[(135,nC)],[]⟩
theorem OA:aO P8 [] none Tryz.f136 AP:=by intro x;kernel_rfl
theorem QG:aq tpr 136:=ak Tryz.func136 rfl (by decide)
theorem Rb:aD tpr 136 AP:=aG OA (.cons uM uH (.nil _)) aH Tryz.func136
def IK:List (Nat×Ann):=[(4,⟨[(0,.val .str),(7,.val tI),(8,.val tI)],[],[],aT _⟩),
 (200004,⟨[],[],[],fun _=>0⟩)]
def wB:ax:=⟨[.val .str],[.val .bool],fun x=>ku x.1⟩
noncomputable def LP:Cx:=⟨tpr,[],[]⟩
theorem Kh:aO LP IK none Tryz.f171 wB:=by intro x;kernel_rfl
theorem Mk:aq tpr 171:=ak Tryz.func171 rfl (by decide)
theorem MH:aD tpr 171 wB:=aG Kh (.nil _) aH Tryz.func171
def LC:List (Nat×Ann):=[(3,⟨[(0,.val .str),(3,.val tI),(7,.val tI),(8,.val tI)],[],[],aT _⟩),
 (200003,⟨[(3,.val tI)],[],[],fun _=>0⟩)]
def AR:ax:=⟨[.val .str],[.val .bool],fun x=>nL x.1⟩
noncomputable def Qa:Cx:=⟨tpr,[],[]⟩
theorem OC:aO Qa LC none Tryz.f172 AR:=by intro x;kernel_rfl
theorem QI:aq tpr 172:=ak Tryz.func172 rfl (by decide)
theorem Re:aD tpr 172 AR:=aG OC (.nil _) aH Tryz.func172
def wC:ax:=⟨[.val tI,.val .str],[.val .bool],fun x=>Cc x.1 x.2.1⟩
noncomputable def LQ:Cx:=⟨tpr,[(135,nC),(171,wB),(172,AR),(173,BE),(174,BF),(175,GW),(176,Dc)],[]⟩
theorem Ki:aO LQ [] none Tryz.f137 wC:=by intro x;kernel_rfl
theorem Ml:aq tpr 137:=ak Tryz.func137 rfl (by decide)
theorem MI:aD tpr 137 wC:=aG Ki (.cons uM uH (.cons MH Mk (.cons Re QI (.cons KZ KC (.cons K0 KD (.cons Rf QJ (.cons MJ Mm (.nil _)))))))) aH Tryz.func137
def wA:ax:=⟨[.val tI,.val .str],[.val .bool,.val tI],fun x=>B9 x.1 x.2.1⟩
noncomputable def LN:Cx:=⟨tpr,[(136,AP),(137,wC)],[]⟩
theorem Kg:aO LN [] none Tryz.f79 wA:=by intro x;kernel_rfl
theorem Mj:aq tpr 79:=ak Tryz.func79 rfl (by decide)
theorem MG:aD tpr 79 wA:=aG Kg (.cons Rb QG (.cons MI Ml (.nil _))) aH Tryz.func79
def wz:ax:=⟨[.val .str],[.val .bool],fun x=>wU x.1⟩
noncomputable def LM:Cx:=⟨tpr,[(79,wA)],[]⟩
theorem Kf:aO LM [] none Tryz.f46 wz:=by intro x;kernel_rfl
theorem Mi:aq tpr 46:=ak Tryz.func46 rfl (by decide)
theorem MF:aD tpr 46 wz:=aG Kf (.cons MG Mj (.nil _)) aH Tryz.func46
def mh:ax:=⟨[.val bK],[.val tI],fun x=>jq x.1⟩
noncomputable def FQ:Cx:=⟨tpr,[(135,nC)],[]⟩
theorem E5:aO FQ [] none Tryz.f80 mh:=by intro x;kernel_rfl
theorem xH:aq tpr 80:=ak Tryz.func80 rfl (by decide)
theorem xU:aD tpr 80 mh:=aG E5 (.cons uM uH (.nil _)) aH Tryz.func80
def TR:List (Nat×Ann):=[(2,⟨[(0,.val tI),(2,.ref 2 0),(3,.ref 3 0)],[(2,lQ),(3,lQ)],[],aT _⟩),
 (200002,⟨[(2,.ref 2 0),(3,.ref 3 0)],[(2,lQ),(3,lQ)],[],fun _=>0⟩)]
def AO:ax:=⟨[.val tI],[.val bf],fun x=>Ed x.1⟩
noncomputable def Wo:Cx:=⟨tpr,[],[]⟩
theorem Ve:aO Wo TR none Tryz.f145 AO:=by intro x;kernel_rfl
theorem Je:aq tpr 145:=ak Tryz.func145 rfl (by decide)
theorem Jo:aD tpr 145 AO:=aG Ve (.nil _) aH Tryz.func145
def JT:List (Nat×Ann):=[(1,⟨[(1,.ref 1 0),(2,.ref 2 0)],[(1,zU),(2,lQ)],[],aT _⟩),
 (200001,⟨[(1,.ref 1 0),(2,.ref 2 0)],[(1,zU),(2,lQ)],[],fun _=>0⟩)]
def s5:ax:=⟨[.val bf],[.val bf],fun x=>mc x.1⟩
noncomputable def Oo:Cx:=⟨tpr,[],[]⟩
theorem L7:aO Oo JT none Tryz.f143 s5:=by intro x;kernel_rfl
theorem EJ:aq tpr 143:=ak Tryz.func143 rfl (by decide)
theorem EP:aD tpr 143 s5:=aG L7 (.nil _) aH Tryz.func143
def JS:List (Nat×Ann):=[(3,⟨[(3,.ref 3 0),(4,.ref 4 0),(5,.ref 5 0),(27,.val (.slice tI)),(28,.val tI),(29,.val tI)],[(3,zU),(4,lQ),(5,CA)],[.rowC 24 3 tI],aT _⟩),
 (6,⟨[(3,.ref 3 0),(4,.ref 4 0),(5,.ref 5 0),(6,.val tI),(7,.val tI),(27,.val (.slice tI)),(28,.val tI),(29,.val tI),(35,.val (.slice tI)),(36,.val tI),(37,.val tI)],[(3,zU),(4,lQ),(5,CA)],[.rowC 24 3 tI],aT _⟩),
 (14,⟨[(4,.ref 4 0),(5,.ref 5 0),(86,.val tI),(87,.val tI)],[(4,lQ),(5,CA)],[.rowC 24 3 tI],aT _⟩),
 (200003,⟨[(4,.ref 4 0),(5,.ref 5 0)],[(4,lQ),(5,CA)],[.rowC 24 3 tI],fun _=>0⟩),
 (200006,⟨[(3,.ref 3 0),(4,.ref 4 0),(5,.ref 5 0),(27,.val (.slice tI)),(28,.val tI),(29,.val tI)],[(3,zU),(4,lQ),(5,CA)],[.rowC 24 3 tI],fun _=>0⟩),
 (200014,⟨[(4,.ref 4 0),(5,.ref 5 0)],[(4,lQ),(5,CA)],[.rowC 24 3 tI],fun _=>0⟩)]
def sZ:ax:=⟨[.val bf,.val bf],[.val bf],fun x=>ry x.1 x.2.1⟩
noncomputable def Om:Cx:=⟨tpr,[(143,s5)],[]⟩
theorem L5:aO Om JS none Tryz.f144 sZ:=by intro x;kernel_rfl
theorem EI:aq tpr 144:=ak Tryz.func144 rfl (by decide)
theorem EO:aD tpr 144 sZ:=aG L5 (.cons EP EJ (.nil _)) aH Tryz.func144
def N5:List (Nat×Ann):=[(3,⟨[(2,.ref 2 0),(3,.ref 3 0),(5,.val tI),(6,.val tI)],[(2,lQ),(3,zU)],[],aT _⟩),
 (200003,⟨[(2,.ref 2 0),(3,.ref 3 0)],[(2,lQ),(3,zU)],[],fun _=>0⟩)]
def Ci:ax:=⟨[.val tI],[.val bf],fun x=>Au x.1⟩
noncomputable def RX:Cx:=⟨tpr,[(144,sZ),(145,AO)],[]⟩
theorem Qj:aO RX N5 none Tryz.f146 Ci:=by intro x;kernel_rfl
theorem Sh:aq tpr 146:=ak Tryz.func146 rfl (by decide)
theorem Sy:aD tpr 146 Ci:=aG Qj (.cons EO EI (.cons Jo Je (.nil _))) aH Tryz.func146
def En:ax:=⟨[.val bK,.val tI],[.val bf],fun x=>wV x.1 x.2.1⟩
noncomputable def Wn:Cx:=⟨tpr,[(144,sZ),(145,AO),(146,Ci)],[]⟩
theorem Vd:aO Wn [] none Tryz.f96 En:=by intro x;kernel_rfl
theorem QF:aq tpr 96:=ak Tryz.func96 rfl (by decide)
theorem Ra:aD tpr 96 En:=aG Vd (.cons EO EI (.cons Jo Je (.cons Sy Sh (.nil _)))) aH Tryz.func96
end Go.Proofs.SeatU
set_option maxRecDepth 100000
namespace Go.Proofs.SeatU
open Go.Dn Go.Md Go.Proofs Go.RowKit Go.Shelf Go.Lib
def QS:BK:= .cop 4 3 72 42 aj
theorem Bi {G:Gh} {w:World} (h:Agr G w) (o:Obj):Agr G (w.alloc o):=fun b o' hb=>by
 have:=bL (h b o' hb)
 rw[lT w _ this];exact h b o' hb
theorem Nw (w:World) (o:Obj):(w.alloc o).heap[w.heap.size]? =some o:=by
 show (w.heap.push o)[w.heap.size]? =_
 rw[Array.getElem?_push_size]
theorem AE (W:World) (b k:Nat) (arr:Array Value) (T:TypeId) (v:Value) (h:W.heap[b]? =some (.cells arr T (0,0))):(W.setCell ⟨b,k,none⟩ v).heap[b]? =some (.cells (arr.setIfInBounds k v) T (0,0)):=by
 simp[World.setCell,Y3,h]
theorem uq (W:World) (b k b':Nat) (v:Value) (h:b'≠b):(W.setCell ⟨b,k,none⟩ v).heap[b']? =W.heap[b']? :=by
 simp only[World.setCell,Y3]
 rw[abN (fun e=>h e.symm)]
theorem AF (W:World) (b k:Nat) (v:Value):(W.setCell ⟨b,k,none⟩ v).os=W.os∧(W.setCell ⟨b,k,none⟩ v).output=W.output∧(W.setCell ⟨b,k,none⟩ v).heap.size=W.heap.size:=by
 refine⟨rfl,rfl, ?_⟩
 simp[World.setCell]
theorem zQ {W:World} {b:Nat} {a0 a1 a2 a3:Value} {T:TypeId} (h:W.heap[b]? =some (.cells #[a0,a1,a2,a3] T (0,0))):
 (W.cell? ⟨b,0,none⟩=some a0∧W.cell? ⟨b,1,none⟩=some a1∧W.cell? ⟨b,2,none⟩=some a2∧W.cell? ⟨b,3,none⟩=some a3)∧∀ o,W.frozen? ⟨b,o,none⟩=false:=by
 refine⟨⟨by simp[World.cell?,h],by simp[World.cell?,h],by simp[World.cell?,h],by simp[World.cell?,h]⟩,fun o=>by simp[World.frozen?,h]⟩
theorem U4 (l:List aa) (hb:l.length*72≤140737488355328) (hm:l.length≤maxLen):bN l=some (l,()):=by
 unfold bN
 have e:(chk (decide ((0+(List.length l))*72≤140737488355328)&&decide (0+(List.length l)≤maxLen)) (some (l,())))=some (l,()):=aQ (by rw[Zd];exact⟨abF (by omega),abF (by omega)⟩) _
 cases l with
 | nil=>
  rw[aah,abB,e]
  exact xo _
 | cons a r=>rw[aag,abA,e]
theorem RR (G:Gh) (w:World) (u:Value) (l:List aj.den) (hG:Agr G w) (hT:nS Tryz.prog G) (hrep:dG G aj.size (ay G aj) l u) (hb:l.length*72≤140737488355328) (hm:l.length≤maxLen):
 Calls Tryz.prog 38 #[u] w fun e w'=>∃ (G':Gh) (s:Value) (xs:List Value),e= .returned s∧G.le G'∧G'.hnd=G.hnd∧Agr G' w'∧(∀ b,b<w.heap.size→G' b=G b)∧
  w'.ownsRow w.heap.size 42 aj.size s l.length xs∧(∀ b,s.ownBlock=some b→G' b=none)∧bA (ay G' aj) l xs∧
  w.heap.size≤w'.heap.size∧w'.os=w.os∧w'.output=w.output∧∀ b,b<w.heap.size→w'.heap[b]? =w.heap[b]? :=by
 have hc:bN l=some (l,()):=U4 l hb hm
 refine (jA G w (fun _=>none) [u] (l,()) (l,()) hG (fun b i h=>by cases h) ⟨u,[],fun _=>rfl,fun h=>absurd h (by simp[PM.arg]),⟨u,rfl,hrep⟩,rfl⟩ hc hT).mono ?_
 rintro e w' ⟨G',ow',vs,g⟩
 obtain⟨s,us,rfl,hres,hnil,_⟩:=g.out
 obtain⟨⟨xs,hrow,hrl⟩,hown⟩:=hres
 subst hnil
 have hnew:∀ b,s.ownBlock=some b→G' b=none∧w.heap.size≤b:=fun b hb=>by
  have h1:=g.own b _ (hown b hb)
  rcases h1.2.2 with h | h
  ·exact⟨h1.1,h⟩
  ·exact absurd rfl h
 refine⟨G',s,xs,g.ret,g.le,g.hnd rfl,g.agr,fun b hb=>(g.old b hb rfl).2,⟨hrow.1, ?_⟩,fun b hb=>(hnew b hb).1,hrl,g.size,g.os,g.output,fun b hb=>(g.old b hb rfl).1⟩
 rcases hrow.2 with hn | ⟨b,cap,cur,hv,hb0,rest⟩
 ·exact .inl hn
 ·refine .inr ⟨b,cap,cur,hv, ?_,rest⟩
  exact (hnew b (by rw[hv];rfl)).2
theorem O9 {fn:Func} {p:Tmp} {ty:TypeId} (h:fn.results= #[.cell p ty]) (tmps:Array Value) (P:Program) (w:World):
 (results fn tmps).run P w=((asAddr (tmps.getD p undef)).run P w).andThen fun a w₁=>(loadVar ty a).run P w₁:=by
 simp only[results,h]
 simp[Sem.run_bind,Result.andThen]
theorem VA:aq tpr 22:=ak Tryz.func22 rfl (by decide)
set_option maxHeartbeats 2000000 in
theorem VB:TL Tryz.prog 22 QS:=by
 intro G w vs u l hG hT hlen hone hu hrep hb hm
 obtain⟨v0,v1,v2,rfl⟩:∃ v0 v1 v2,vs=[v0,v1,v2,u]:=by
  match vs,hlen,hu with
  | [a,b,c,d],_,hu=>
   have:d=u:=Option.some.inj hu
   exact⟨a,b,c,by rw[this]⟩
 have o0:v0.oneCell'=true:=hone v0 (by simp)
 have o1:v1.oneCell'=true:=hone v1 (by simp)
 have o2:v2.oneCell'=true:=hone v2 (by simp)
 have mixed:Tryz.prog.follows .mixedOrders=true:=by kernel_rfl
 have aA:=Tryz.isAgg24;have zA:=Tryz.sizeOf24;have vA:=Tryz.zeroValue24;have tA:=Tryz.underlying24
 have aS:=Tryz.isAgg22;have zS:=Tryz.sizeOf22;have vS:=Tryz.zeroValue22;have tS:=Tryz.underlying22
 have hcl:=fun (w2:World) (h:Agr G w2)=>RR G w2 u l h hT hrep hb hm
 go_enter Tryz.func22,Tryz.ntmps22
 go_wp2_with (go_at_fn 38;refine (hcl _ (Bi (Bi hG _) _)).mono ?_;rintro e w' ⟨G',s,xs,rfl,h1,h2,h3,h4,h5,h6,h7,h8,h9,h10,h11⟩)
 all_goals refine (hcl _ (Bi (Bi hG _) _)).mono ?_
 all_goals rintro e w' ⟨G',s,xs,rfl,h1,h2,h3,h4,h5,h6,h7,h8,h9,h10,h11⟩
 all_goals
  obtain⟨a,n,c,rfl⟩:∃ a n c,s= .slice a n c:=by
   rcases h5.2 with ⟨e,_⟩ | ⟨b0,c0,cu,e,_⟩
   ·exact⟨_,_,_,e⟩
   ·exact⟨_,_,_,e⟩
  have hB1:w'.heap[w.heap.size]? =some (.cells #[v0,v1,v2,u] 24 (0,0)):=by
   rw[h11 w.heap.size (by simp;omega),lT _ _ (by simp)]
   exact Nw w _
  have hB2:w'.heap[w.heap.size+1]? =some (.cells #[.string ⟨#[]⟩,.string ⟨#[]⟩,.int .i64 0,.slice none 0 0] 24 (0,0)):=by
   rw[h11 (w.heap.size+1) (by simp)]
   have:=Nw (w.alloc (.cells #[v0,v1,v2,u] 24)) (.cells #[.string ⟨#[]⟩,.string ⟨#[]⟩,.int .i64 0,.slice none 0 0] 24)
   simpa using this
  obtain⟨⟨c0,c1,c2,c3⟩,cf⟩:=zQ hB1
  have cf3:=cf 3
  have hne:w.heap.size+1≠w.heap.size:=by omega
  have hne':w.heap.size≠w.heap.size+1:=by omega
  have hS1:(w'.setCell ⟨w.heap.size,3,none⟩ (.slice a n c)).heap[w.heap.size]? =some (.cells #[v0,v1,v2,.slice a n c] 24 (0,0)):=AE _ _ 3 _ _ (.slice a n c) hB1
  have hT1:=(uq w' w.heap.size 3 (w.heap.size+1) (.slice a n c) hne).trans hB2
  obtain⟨⟨e0,e1,e2,e3⟩,_⟩:=zQ hS1
  obtain⟨⟨d0,d1,d2,d3⟩,df⟩:=zQ hT1
  have df0:=df 0
  have hT2:=AE _ (w.heap.size+1) 0 _ _ v0 hT1
  obtain⟨⟨_,g1,g2,g3⟩,gf⟩:=zQ hT2
  have gf1:=gf 1
  have hT3:=AE _ (w.heap.size+1) 1 _ _ v1 hT2
  obtain⟨⟨_,_,i2,i3⟩,jf⟩:=zQ hT3
  have jf2:=jf 2
  have hT4:=AE _ (w.heap.size+1) 2 _ _ v2 hT3
  obtain⟨⟨_,_,_,j3⟩,kf⟩:=zQ hT4
  have kf3:=kf 3
  have r0:(store ⟨w.heap.size+1,0,none⟩ v0).run Tryz.prog (w'.setCell ⟨w.heap.size,3,none⟩ (.slice a n c))= .ok () ((w'.setCell ⟨w.heap.size,3,none⟩ (.slice a n c)).setCell ⟨w.heap.size+1,0,none⟩ v0):=by
   rw[run_store _ _ _ _ _ o0,d0,df0];rfl
  have r1:(store ⟨w.heap.size+1,1,none⟩ v1).run Tryz.prog ((w'.setCell ⟨w.heap.size,3,none⟩ (.slice a n c)).setCell ⟨w.heap.size+1,0,none⟩ v0)= .ok () (((w'.setCell ⟨w.heap.size,3,none⟩ (.slice a n c)).setCell ⟨w.heap.size+1,0,none⟩ v0).setCell ⟨w.heap.size+1,1,none⟩ v1):=by
   rw[run_store _ _ _ _ _ o1,g1,gf1];rfl
  have r2:(store ⟨w.heap.size+1,2,none⟩ v2).run Tryz.prog (((w'.setCell ⟨w.heap.size,3,none⟩ (.slice a n c)).setCell ⟨w.heap.size+1,0,none⟩ v0).setCell ⟨w.heap.size+1,1,none⟩ v1)= .ok () ((((w'.setCell ⟨w.heap.size,3,none⟩ (.slice a n c)).setCell ⟨w.heap.size+1,0,none⟩ v0).setCell ⟨w.heap.size+1,1,none⟩ v1).setCell ⟨w.heap.size+1,2,none⟩ v2):=by
   rw[run_store _ _ _ _ _ o2,i2,jf2];rfl
  have hT5:=AE _ (w.heap.size+1) 3 _ _ (.slice a n c) hT4
  obtain⟨⟨l0,l1,l2,l3⟩,lf⟩:=zQ hT5
 all_goals go_wp2
 all_goals
  refine bodyPost_ret (v:= .agg #[v0,v1,v2,.slice a n c]) ?_ rfl ?_
  ·rw[O9 (p:=2) (ty:=24) (by kernel_rfl)]
   have hl:=run_loadCells_list (P:=Tryz.prog) (((((w'.setCell ⟨w.heap.size,3,none⟩ (.slice a n c)).setCell ⟨w.heap.size+1,0,none⟩ v0).setCell ⟨w.heap.size+1,1,none⟩ v1).setCell ⟨w.heap.size+1,2,none⟩ v2).setCell ⟨w.heap.size+1,3,none⟩ (.slice a n c)) ⟨w.heap.size+1,0,none⟩ [v0,v1,v2,.slice a n c] (fun j v hj=>by
    match j,hj with
    | 0,hj=>cases hj;exact l0
    | 1,hj=>cases hj;exact l1
    | 2,hj=>cases hj;exact l2
    | 3,hj=>cases hj;exact l3
    | j+4,hj=>simp at hj)
   simp[Result.andThen,loadVar,asAddr,aA,zA]
   have hl':=hl
   simp only[aaj,aam,Nat.reduceAdd] at hl'
   rw[hl']
  ·have hS:∀ b,b≠w.heap.size→b≠w.heap.size+1→(((((w'.setCell ⟨w.heap.size,3,none⟩ (.slice a n c)).setCell ⟨w.heap.size+1,0,none⟩ v0).setCell ⟨w.heap.size+1,1,none⟩ v1).setCell ⟨w.heap.size+1,2,none⟩ v2).setCell ⟨w.heap.size+1,3,none⟩ (.slice a n c)).heap[b]? =w'.heap[b]? :=fun b e1 e2=>by
    rw[uq _ _ _ _ _ e2,uq _ _ _ _ _ e2,uq _ _ _ _ _ e2,uq _ _ _ _ _ e2,uq _ _ _ _ _ e1]
   have hsz:(((((w'.setCell ⟨w.heap.size,3,none⟩ (.slice a n c)).setCell ⟨w.heap.size+1,0,none⟩ v0).setCell ⟨w.heap.size+1,1,none⟩ v1).setCell ⟨w.heap.size+1,2,none⟩ v2).setCell ⟨w.heap.size+1,3,none⟩ (.slice a n c)).heap.size=w'.heap.size:=by
    rw[(AF _ _ _ _).2.2,(AF _ _ _ _).2.2,(AF _ _ _ _).2.2,(AF _ _ _ _).2.2,(AF _ _ _ _).2.2]
   have h8':w.heap.size+2≤w'.heap.size:=by simpa using h8
   have hlow:∀ b,b<w.heap.size+2→G' b=G b:=fun b hb=>h4 b (by simpa using hb)
   have hGn:∀ b,w.heap.size≤b→G b=none:=fun b hb=>by
    cases e:G b with
    | none=>rfl
    | some o=>exact absurd (bL (hG b o e)) (Nat.not_lt.2 hb)
   have h5':w'.ownsRow (w.heap.size+2) 42 aj.size (.slice a n c) l.length xs:=by simpa using h5
   refine⟨G',.slice a n c,xs,rfl,h1,h2, ?_,fun b hb=>hlow b (by omega), ?_,h6,h7,by rw[hsz];omega,h9,h10,fun b hb=> ?_⟩
   ·intro b o hb
    have n1:b≠w.heap.size:=fun e=>by
     rw[e,hlow _ (by omega),hGn _ (aa7 _)] at hb;cases hb
    have n2:b≠w.heap.size+1:=fun e=>by
     rw[e,hlow _ (by omega),hGn _ (by omega)] at hb;cases hb
    rw[hS b n1 n2]
    exact h3 b o hb
   ·refine⟨h5'.1, ?_⟩
    rcases h5'.2 with e | ⟨g,cap,cur,hv,hbase,hg,rest⟩
    ·exact .inl e
    ·exact .inr ⟨g,cap,cur,hv,by omega,by rw[hS g (by omega) (by omega)];exact hg,rest⟩
   ·rw[hS b (by omega) (by omega),h11 b (by simp;omega),lT _ _ (by simp;omega),lT _ _ hb]
end Go.Proofs.SeatU
end
