/-
  Each function that the laws reach is as its plain model says. No condition.
-/
import Derived.Test.YtcpmaicaibdafaaGreatDoorWv
set_option linter.all false
set_option maxRecDepth 100000
noncomputable section
namespace Go.Proofs
abbrev tpr:=Tryz.prog
end Go.Proofs
namespace Go.Proofs.SeatA
open Go.Dn Go.Md Go.Proofs
theorem abD:Tryz.prog.follows .mixedOrders=true:=by kernel_rfl
def Zr (X:Cx) (anns:List (Nat×Ann)) (ar:Option Ty) (fn:Func) (sp:au):Prop:=∀ x,P8 X anns ar fn sp x=sp.m x
theorem I6 {X:Cx} {anns:List (Nat×Ann)} {ar:Option Ty} {fn:Func} {sp:au} (h:Zr X anns ar fn sp) (hX:bY X) (hm:X.P.follows .mixedOrders=true) {f:FuncId} (hf:X.P.funcs[f]? =some fn):oZ X.P f sp:=abg hX hm sp anns ar hf fun x _ e=>(h x).trans e
def FB (f:Nat) (sp:au):Prop:=oZ tpr f sp∧jg tpr f
theorem fbk (X:Cx) (anns:List (Nat×Ann)) (ar:Option Ty) {fn:Func} {sp:au} {f:Nat} (h:Zr X anns ar fn sp) (hX:bY X) (hf:tpr.funcs[f]? =some fn) (e:X.P=tpr:=by exact rfl) (h1:fn.body.isSome=true:=by exact rfl) (h2:fn.name≠ "runtime.NumGoroutine" :=by decide):FB f sp:=by
 have k:=I6 h hX (by rw[e];exact abD) (by rw[e];exact hf)
 rw[e] at k
 exact⟨k,sG hf h1 h2⟩
theorem cz {f:Nat} {sp:au} {r:List (Nat×au)} {ks:List (Nat×zF)} (h:FB f sp) (t:bY ⟨tpr,r,ks⟩):bY ⟨tpr,(f,sp)::r,ks⟩:= .cons h.1 h.2 t
def L9:List CK:=[.val .bool,.own 203 (.int .u32)]
def Q6:List CK:=[.val .bool,.val (.slice (.int .u32))]
def aaW:List CK:=[.val .bool,.val .bool,.val .bool,.val .bool,.val .bool,.val .bool]
def aaX:List CK:=[.val .str,.val .str,.val .str,.val tI,.val tI,.val (.slice eS),.val (.slice ay),.mapR 10,.own 244 an,.own 258 cI,.val tI]
def aaY:List CK:=[.val .str,.val .str,.val .str,.val tI,.val tI,.val (.slice eS),.val (.slice ay),.mapR 10250003,.rowR 10250004,.rowR 10250005,.val tI]
def Ma:List CK:=[.val .str,.val .str,.val .str,.val tI,.val tI,.val (.slice eS)]
def Q7:List CK:=[.val .str,.val .str,.val tI,.val tI,.val tI,.val .bool,.val (.slice gp),.val (.slice fB),.val (.slice jy)]
def Mb:List CK:=[.val tI,.val tI,.val tI,.val tI,.val tI,.val .str,.val tI,.val tI,.val .str,.val tI,.val tI,.val tI,.val tI]
def iV:au:=⟨[.val .str],[.val .bool],fun x=>cW x.1⟩
noncomputable def Vc:Cx:=⟨tpr,[(88,By)],[]⟩
theorem jX:FB 48 iV:=fbk Vc [] none (by intro x;kernel_rfl) (.cons RZ RL (.nil _)) Tryz.func48
def dU:au:=⟨[.val tI,.val tI,.val tI],[.val .bool],fun x=>bO x.1 x.2.1 x.2.2.1⟩
noncomputable def S7:Cx:=⟨tpr,[],[]⟩
theorem eD:FB 35 dU:=fbk S7 [] none (by intro x;kernel_rfl) (.nil _) Tryz.func35
def jS:au:=⟨[.val tI],[.val .bool],fun x=>jZ x.1⟩
noncomputable def Wj:Cx:=⟨tpr,[(35,dU)],[]⟩
theorem lJ:FB 37 jS:=fbk Wj [] none (by intro x;kernel_rfl) (cz eD (.nil _)) Tryz.func37
def eV:au:=⟨[.val an],[.val tI],fun x=>cD x.1⟩
noncomputable def HS:Cx:=⟨tpr,[(35,dU)],[]⟩
theorem fV:FB 114 eV:=fbk HS [] none (by intro x;kernel_rfl) (cz eD (.nil _)) Tryz.func114
def PE:List (Nat×Ann):=[(3,⟨[(3,.val tI),(4,.val tI),(5,.val tI)],[],[],aP _⟩),
 (200003,⟨[(3,.val tI)],[],[],fun _=>0⟩)]
def Ch:au:=⟨[.val tI],[.val tI],fun x=>CC x.1⟩
noncomputable def S8:Cx:=⟨tpr,[],[]⟩
theorem Je:FB 215 Ch:=fbk S8 PE none (by intro x;kernel_rfl) (.nil _) Tryz.func215
def Bw:au:=⟨[.val an,.val tI,.val tI],[.val .bool],fun x=>rB x.1 x.2.1 x.2.2.1⟩
noncomputable def Ri:Cx:=⟨tpr,[(215,Ch)],[]⟩
theorem GZ:FB 210 Bw:=fbk Ri [] none (by intro x;kernel_rfl) (cz Je (.nil _)) Tryz.func210
def qB:au:=⟨[.val an,.val .bool],[.val tI],fun x=>kF x.1 x.2.1⟩
noncomputable def HV:Cx:=⟨tpr,[(114,eV),(210,Bw)],[]⟩
theorem yz:FB 156 qB:=fbk HV [] none (by intro x;kernel_rfl) (cz fV (cz GZ (.nil _))) Tryz.func156
def oD:au:=⟨[.val an],[.val tI],fun x=>jd x.1⟩
noncomputable def LI:Cx:=⟨tpr,[(114,eV),(210,Bw)],[]⟩
theorem uB:FB 157 oD:=fbk LI [] none (by intro x;kernel_rfl) (cz fV (cz GZ (.nil _))) Tryz.func157
def JM:List (Nat×Ann):=[(300004,⟨[(17,.val .bool)],[],[],fun _=>0⟩)]
def DE:au:=⟨[.val aY,.val tI],[.val tI],fun x=>uV x.1 x.2.1⟩
noncomputable def Mp:Cx:=⟨tpr,[(35,dU),(48,iV),(156,qB),(157,oD)],[]⟩
theorem MI:FB 87 DE:=fbk Mp JM none (by intro x;kernel_rfl) (cz eD (cz jX (cz yz (cz uB (.nil _))))) Tryz.func87
def IG:List (Nat×Ann):=[(12,⟨[(1,.ref 1 0),(50,.val tI),(51,.val tI)],[(1,Ma)],[],aP _⟩),
 (200012,⟨[],[],[],fun _=>0⟩)]
def oC:au:=⟨[.val aY],[.val tI],fun x=>kM x.1⟩
noncomputable def LH:Cx:=⟨tpr,[(35,dU),(37,jS),(48,iV),(87,DE)],[]⟩
theorem uA:FB 47 oC:=fbk LH IG none (by intro x;kernel_rfl) (cz eD (cz lJ (cz jX (cz MI (.nil _))))) Tryz.func47
def wC:au:=⟨[.val tI],[.val .bool],fun x=>pO x.1⟩
noncomputable def Mo:Cx:=⟨tpr,[],[]⟩
theorem C9:FB 185 wC:=fbk Mo [] none (by intro x;kernel_rfl) (.nil _) Tryz.func185
def HB:au:=⟨[.val tI],[.val Xv],fun x=>AY x.1⟩
noncomputable def Rh:Cx:=⟨tpr,[],[]⟩
theorem Rz:FB 234 HB:=fbk Rh [] none (by intro x;kernel_rfl) (.nil _) Tryz.func234
def JN:List (Nat×Ann):=[(100003,⟨[(1,.ref 1 0),(3,.ref 3 0)],[(1,Mb),(3,aaW)],[],fun _=>0⟩),
 (100007,⟨[(1,.ref 1 0),(3,.ref 3 0)],[(1,Mb),(3,aaW)],[],fun _=>0⟩),
 (300011,⟨[(30,.val .bool)],[],[],fun _=>0⟩),
 (300013,⟨[(39,.val .bool)],[],[],fun _=>0⟩),
 (300015,⟨[(58,.val .bool)],[],[],fun _=>0⟩),
 (300017,⟨[(66,.val .bool)],[],[],fun _=>0⟩)]
def DF:au:=⟨[.val ay],[.val tI],fun x=>uW x.1⟩
noncomputable def Ms:Cx:=⟨tpr,[(35,dU),(37,jS),(48,iV),(156,qB),(157,oD),(234,HB)],[]⟩
theorem MJ:FB 186 DF:=fbk Ms JN none (by intro x;kernel_rfl) (cz eD (cz lJ (cz jX (cz yz (cz uB (cz Rz (.nil _))))))) Tryz.func186
def DD:au:=⟨[.val ay],[.val tI],fun x=>uU x.1⟩
noncomputable def Mn:Cx:=⟨tpr,[(35,dU),(37,jS),(185,wC),(186,DF)],[]⟩
theorem MH:FB 122 DD:=fbk Mn [] none (by intro x;kernel_rfl) (cz eD (cz lJ (cz C9 (cz MJ (.nil _))))) Tryz.func122
def GJ:List (Nat×Ann):=[(2,⟨[(22,.rowR 22),(23,.val tI),(24,.val tI)],[],[.rowC 22 3 tI],aP _⟩),
 (200002,⟨[],[],[],fun _=>0⟩)]
def Aq:au:=⟨[.val ay,.val ay],[.val tI],fun x=>lP x.1 x.2.1⟩
noncomputable def IY:Cx:=⟨tpr,[],[]⟩
theorem Jc:FB 123 Aq:=fbk IY GJ none (by intro x;kernel_rfl) (.nil _) Tryz.func123
def IF:List (Nat×Ann):=[(5,⟨[(0,.val (.slice ay)),(3,.ref 3 0),(11,.val (.slice ay)),(12,.val tI),(13,.val tI)],[(3,[.val tI,.val tI,.val tI])],[],aP _⟩),
 (200005,⟨[],[],[],fun _=>0⟩),
 (300010,⟨[(34,.val .bool)],[],[],fun _=>0⟩)]
def oB:au:=⟨[.val (.slice ay)],[.val tI],fun x=>kL x.1⟩
noncomputable def LG:Cx:=⟨tpr,[(122,DD),(123,Aq)],[]⟩
theorem uz:FB 68 oB:=fbk LG IF none (by intro x;kernel_rfl) (cz MH (cz Jc (.nil _))) Tryz.func68
def lE:au:=⟨[.val an],[.val tI],fun x=>iI x.1⟩
noncomputable def HT:Cx:=⟨tpr,[(35,dU)],[]⟩
theorem qi:FB 13 lE:=fbk HT [] none (by intro x;kernel_rfl) (cz eD (.nil _)) Tryz.func13
def Hy:au:=⟨[.val tI],[.val .bool],fun x=>Ff x.1⟩
noncomputable def Ra:Cx:=⟨tpr,[(35,dU)],[]⟩
theorem Rw:FB 89 Hy:=fbk Ra [] none (by intro x;kernel_rfl) (cz eD (.nil _)) Tryz.func89
def QM:List (Nat×Ann):=[(3,⟨[(3,.val tI),(4,.val tI),(5,.val tI)],[],[],aP _⟩),
 (200003,⟨[(3,.val tI)],[],[],fun _=>0⟩)]
def zu:au:=⟨[.val tI],[.val tI],fun x=>wU x.1⟩
noncomputable def Vb:Cx:=⟨tpr,[],[]⟩
theorem DS:FB 191 zu:=fbk Vb QM none (by intro x;kernel_rfl) (.nil _) Tryz.func191
def p9:au:=⟨[.val an,.val tI],[.val .bool],fun x=>eH x.1 x.2.1⟩
noncomputable def Rf:Cx:=⟨tpr,[(35,dU),(191,zu)],[]⟩
theorem uR:FB 165 p9:=fbk Rf [] none (by intro x;kernel_rfl) (cz eD (cz DS (.nil _))) Tryz.func165
def JL:List (Nat×Ann):=[(6,⟨[(0,.val (.slice gp)),(12,.val (.slice gp)),(13,.val tI),(14,.val tI)],[],[],aP _⟩),
 (200006,⟨[],[],[],fun _=>0⟩)]
def DC:au:=⟨[.val (.slice gp)],[.val tI],fun x=>mg x.1⟩
noncomputable def Mm:Cx:=⟨tpr,[(48,iV),(114,eV),(165,p9)],[]⟩
theorem MG:FB 90 DC:=fbk Mm JL none (by intro x;kernel_rfl) (cz jX (cz fV (cz uR (.nil _)))) Tryz.func90
def Gn:au:=⟨[.val gp,.val .str],[.val tI],fun x=>DO x.1 x.2.1⟩
noncomputable def PV:Cx:=⟨tpr,[(228,wG)],[]⟩
theorem Qb:FB 227 Gn:=fbk PV [] none (by intro x;kernel_rfl) (.cons Nj MV (.nil _)) Tryz.func227
def qg:List (Nat×Ann):=[(3,⟨[(0,.val (.slice gp)),(1,.val .str),(2,.val (.clo 227 .unit)),(8,.val tI),(9,.val tI),(10,.val tI)],[],[],aP _⟩),
 (200003,⟨[(0,.val (.slice gp)),(1,.val .str),(2,.val (.clo 227 .unit)),(8,.val tI),(9,.val tI)],[],[],fun _=>0⟩)]
def jq:au:=⟨[.val (.slice gp),.val .str,.val (.clo 227 .unit)],[.val tI,.val .bool],fun x=>dV x.1 x.2.1 x.2.2.1⟩
noncomputable def rf:Cx:=⟨tpr,[(227,Gn)],[]⟩
theorem rj:FB 226 jq:=fbk rf qg none (by intro x;kernel_rfl) (cz Qb (.nil _)) Tryz.func226
def Jw:au:=⟨[.val (.slice gp),.val .str],[.val tI,.val .bool],fun x=>Cw x.1 x.2.1⟩
noncomputable def S6:Cx:=⟨tpr,[(226,jq)],[]⟩
theorem Tm:FB 176 Jw:=fbk S6 [] none (by intro x;kernel_rfl) (cz rj (.nil _)) Tryz.func176
def Bu:au:=⟨[.val aC,.val .str],[.val .bool],fun x=>iN x.1 x.2.1⟩
noncomputable def Rg:Cx:=⟨tpr,[(176,Jw)],[]⟩
theorem GY:FB 166 Bu:=fbk Rg [] none (by intro x;kernel_rfl) (cz Tm (.nil _)) Tryz.func166
def ID:List (Nat×Ann):=[(4,⟨[(2,.val .bool),(3,.ref 3 0),(13,.val (.slice jy)),(14,.val tI),(15,.val tI)],[(3,Q7)],[],aP _⟩),
 (100012,⟨[(2,.val .bool),(3,.ref 3 0),(8,.ref 8 0),(13,.val (.slice jy)),(14,.val tI),(15,.val tI),(30,.val .bool)],[(3,Q7),(8,[.val .bool,.val tI,.val tI,.val .str])],[],fun _=>0⟩),
 (200004,⟨[],[],[],fun _=>0⟩)]
def uH:au:=⟨[.val aC,.val (.slice jy),.val .bool],[.val tI],fun x=>iZ x.1 x.2.1 x.2.2.1⟩
noncomputable def LD:Cx:=⟨tpr,[(114,eV),(165,p9),(166,Bu)],[]⟩
theorem BL:FB 92 uH:=fbk LD ID none (by intro x;kernel_rfl) (cz fV (cz uR (cz GY (.nil _)))) Tryz.func92
def Eh:au:=⟨[.val aC,.val tI],[.val tI],fun x=>qZ x.1 x.2.1⟩
noncomputable def Oy:Cx:=⟨tpr,[(35,dU),(48,iV),(92,uH),(114,eV),(157,oD),(165,p9),(166,Bu)],[]⟩
theorem OK:FB 91 Eh:=fbk Oy [] none (by intro x;kernel_rfl) (cz eD (cz jX (cz BL (cz fV (cz uB (cz uR (cz GY (.nil _)))))))) Tryz.func91
def HN:List (Nat×Ann):=[(15,⟨[(1,.ref 1 0),(48,.val tI),(49,.val tI)],[(1,Q7)],[],aP _⟩),
 (200015,⟨[(1,.ref 1 0)],[(1,Q7)],[],fun _=>0⟩)]
def s6:au:=⟨[.val aC],[.val tI],fun x=>mM x.1⟩
noncomputable def JW:Cx:=⟨tpr,[(35,dU),(37,jS),(48,iV),(89,Hy),(90,DC),(91,Eh),(92,uH)],[]⟩
theorem AR:FB 49 s6:=fbk JW HN none (by intro x;kernel_rfl) (cz eD (cz lJ (cz jX (cz Rw (cz MG (cz OK (cz BL (.nil _)))))))) Tryz.func49
def Lw:List (Nat×Ann):=[(13,⟨[(1,.val (.slice ay)),(3,.val (.slice aC)),(4,.ref 4 0),(6,.ref 6 0),(34,.val (.slice aC)),(35,.val tI),(36,.val tI)],[(4,Ma),(6,[.val tI,.val tI])],[],aP _⟩),
 (200013,⟨[(1,.val (.slice ay)),(3,.val (.slice aC)),(4,.ref 4 0),(6,.ref 6 0)],[(4,Ma),(6,[.val tI,.val tI])],[],fun _=>0⟩),
 (300018,⟨[(58,.val .bool)],[],[],fun _=>0⟩)]
def yg:au:=⟨[.val aY,.val (.slice ay),.val an,.val (.slice aC)],[.box [.val aY,.val (.slice ay),.val an,.val (.slice aC),.map tI (.slice bz),.map tI bh,.row 37 bQ],.val tI],fun x=>q7 x.1 x.2.1 x.2.2.1 x.2.2.2.1⟩
noncomputable def Oz:Cx:=⟨tpr,[(13,lE),(47,oC),(49,s6),(68,oB)],[]⟩
theorem Ec:FB 30 yg:=fbk Oz Lw none (by intro x;kernel_rfl) (cz qi (cz uA (cz AR (cz uz (.nil _))))) Tryz.func30
def IE:List (Nat×Ann):=[(13,⟨[(1,.val (.slice ay)),(3,.val (.slice aC)),(4,.ref 4 0),(6,.ref 6 0),(34,.val (.slice aC)),(35,.val tI),(36,.val tI)],[(4,Ma),(6,[.val tI,.val tI])],[],aP _⟩),
 (200013,⟨[(1,.val (.slice ay)),(3,.val (.slice aC)),(4,.ref 4 0),(6,.ref 6 0)],[(4,Ma),(6,[.val tI,.val tI])],[],fun _=>0⟩),
 (300018,⟨[(58,.val .bool)],[],[],fun _=>0⟩)]
def uI:au:=⟨[.val aY,.val (.slice ay),.val an,.val (.slice aC)],[.val .hnd,.val tI],fun x=>nG x.1 x.2.1 x.2.2.1 x.2.2.2.1⟩
noncomputable def LF:Cx:=⟨tpr,[(13,lE),(47,oC),(49,s6),(68,oB)],[]⟩
theorem BM:FB 30 uI:=fbk LF IE none (by intro x;kernel_rfl) (cz qi (cz uA (cz AR (cz uz (.nil _))))) Tryz.func30
def jw:au:=⟨[.val tI,.val tI,.box [.val aY,.val (.slice ay),.val an,.val (.slice aC),.map tI (.slice bz),.map tI bh,.row 37 bQ],.box [.val tI]],[],fun x=>fT x.1 x.2.1 x.2.2.1 x.2.2.2.1⟩
noncomputable def uQ:Cx:=⟨tpr,[],[]⟩
theorem DR:∀ x,acr uQ [] Tryz.f69 jw 2 x=jw.m x:=by intro x;kernel_rfl
noncomputable def abq:zF:= .nest 2 jw
theorem aei:jg tpr 69:=sG Tryz.func69 rfl (by decide)
theorem aej:GN Tryz.prog 69 abq:=adP (X:=uQ) (.nil _) (by kernel_rfl) jw 2 [] (by kernel_rfl) (fun x y h=>(DR x).trans h)
def u9:au:=⟨[.val aC,.val (.ptr aC)],[.val .bool],fun x=>qh x.1 x.2.1⟩
noncomputable def Es:Cx:=⟨tpr,[],[]⟩
theorem Ey:FB 71 u9:=fbk Es [] none (by intro x;kernel_rfl) (.nil _) Tryz.func71
def yq:List (Nat×Ann):=[(2,⟨[(0,.val (.slice aC)),(1,.val (.clo 71 (.ptr aC))),(7,.val tI),(8,.val tI)],[],[],aP _⟩),
 (200002,⟨[],[],[],fun _=>0⟩)]
def oH:au:=⟨[.val (.slice aC),.val (.clo 71 (.ptr aC))],[.val tI],fun x=>kT x.1 x.2.1⟩
noncomputable def Ax:Cx:=⟨tpr,[(71,u9)],[]⟩
theorem Az:FB 124 oH:=fbk Ax yq none (by intro x;kernel_rfl) (cz Ey (.nil _)) Tryz.func124
def mT:au:=⟨[.val (.slice aC),.val (.clo 71 (.ptr aC))],[.val .bool],fun x=>fR x.1 x.2.1⟩
noncomputable def xR:Cx:=⟨tpr,[(124,oH)],[]⟩
theorem xV:FB 70 mT:=fbk xR [] none (by intro x;kernel_rfl) (cz Az (.nil _)) Tryz.func70
def zS:au:=⟨[.val aY,.val (.slice ay)],[.val tI],fun x=>tE x.1 x.2.1⟩
noncomputable def PX:Cx:=⟨tpr,[(47,oC),(68,oB)],[]⟩
theorem FC:FB 98 zS:=fbk PX [] none (by intro x;kernel_rfl) (cz uA (cz uz (.nil _))) Tryz.func98
def nE:au:=⟨[.val an],[.val tI],fun x=>iP x.1⟩
noncomputable def S9:Cx:=⟨tpr,[(215,Ch)],[]⟩
theorem ri:FB 170 nE:=fbk S9 [] none (by intro x;kernel_rfl) (cz Je (.nil _)) Tryz.func170
def HO:List (Nat×Ann):=[(3,⟨[(5,.ref 12 0),(14,.val (.slice eS)),(15,.val tI),(16,.val tI)],[(12,aaX)],[.mapC 10 tI .hnd,.ar ck],aP _⟩),
 (200003,⟨[(5,.ref 12 0)],[(12,aaX)],[.mapC 10 tI .hnd,.ar ck],fun _=>0⟩)]
def s7:au:=⟨[.val aY,.val (.slice ay),.ar ck],[.box [.val aY,.val (.slice ay),.map tI .hnd,.row 244 an,.row 258 cI,.val tI]],fun x=>jW x.1 x.2.1 x.2.2.1⟩
noncomputable def JY:Cx:=⟨tpr,[(170,nE)],[]⟩
theorem AS:FB 99 s7:=fbk JY HO none (by intro x;kernel_rfl) (cz ri (.nil _)) Tryz.func99
def Ar:au:=⟨[.box [.val aY,.val (.slice ay),.map tI .hnd,.row 244 an,.row 258 cI,.val tI],.val tI,.ar ck],[.val tI],fun x=>pN x.1 x.2.1 x.2.2.1⟩
noncomputable def IZ:Cx:=⟨tpr,[],[]⟩
theorem Jd:FB 216 Ar:=fbk IZ [] none (by intro x;kernel_rfl) (.nil _) Tryz.func216
def Fh:List (Nat×Ann):=[(300002,⟨[(27,.val .bool)],[],[],fun _=>0⟩)]
def yO:au:=⟨[.box [.val aY,.val (.slice ay),.map tI .hnd,.row 244 an,.row 258 cI,.val tI],.val .hnd,.val tI,.ar ck],[.val tI],fun x=>ox x.1 x.2.1 x.2.2.1 x.2.2.2.1⟩
noncomputable def HZ:Cx:=⟨tpr,[],[]⟩
theorem Ic:FB 217 yO:=fbk HZ Fh none (by intro x;kernel_rfl) (.nil _) Tryz.func217
def wA:au:=⟨[.box [.val aY,.val (.slice ay),.map tI .hnd,.row 244 an,.row 258 cI,.val tI],.val .hnd,.val ay,.ar ck],[.val tI],fun x=>mo x.1 x.2.1 x.2.2.1 x.2.2.2.1⟩
noncomputable def Fq:Cx:=⟨tpr,[(170,nE)],[]⟩
theorem FD:FB 218 wA:=fbk Fq [] none (by intro x;kernel_rfl) (cz ri (.nil _)) Tryz.func218
def wD:au:=⟨[.val .hnd,.arR ck],[.val tI],fun x=>mz x.1 x.2.1⟩
noncomputable def Mq:Cx:=⟨tpr,[],[]⟩
theorem Da:FB 105 wD:=fbk Mq [] none (by intro x;kernel_rfl) (.nil _) Tryz.func105
def ve:au:=⟨[.box [.val aY,.val (.slice ay),.map tI .hnd,.row 244 an,.row 258 cI,.val tI],.val .hnd,.val ay,.ar ck],[.val tI],fun x=>lB x.1 x.2.1 x.2.2.1 x.2.2.2.1⟩
noncomputable def Et:Cx:=⟨tpr,[(105,wD),(170,nE)],[]⟩
theorem Ez:FB 219 ve:=fbk Et [] none (by intro x;kernel_rfl) (cz Da (cz ri (.nil _))) Tryz.func219
def yN:au:=⟨[.box [.val aY,.val (.slice ay),.map tI .hnd,.row 244 an,.row 258 cI,.val tI],.val .hnd,.val ay,.ar ck],[.val tI],fun x=>ov x.1 x.2.1 x.2.2.1 x.2.2.2.1⟩
noncomputable def HY:Cx:=⟨tpr,[],[]⟩
theorem Ib:FB 220 yN:=fbk HY [] none (by intro x;kernel_rfl) (.nil _) Tryz.func220
def yM:au:=⟨[.box [.val aY,.val (.slice ay),.map tI .hnd,.row 244 an,.row 258 cI,.val tI],.val .hnd,.val ay,.ar ck],[.val tI],fun x=>ou x.1 x.2.1 x.2.2.1 x.2.2.2.1⟩
noncomputable def HX:Cx:=⟨tpr,[(170,nE)],[]⟩
theorem Ia:FB 221 yM:=fbk HX [] none (by intro x;kernel_rfl) (cz ri (.nil _)) Tryz.func221
def Fg:List (Nat×Ann):=[(100011,⟨[(0,.ref 2000 0),(1,.val tI),(5,.ref 5 0),(6,.val .hnd),(31,.val tI),(36,.val .bool)],[(5,Mb),(2000,aaY)],[.rowC 10250004 244 an,.rowC 10250005 258 cI,.mapC 10250003 tI .hnd,.ar ck],fun _=>0⟩),
 (100015,⟨[(0,.ref 2000 0),(5,.ref 5 0),(6,.val .hnd),(31,.val tI),(44,.val .bool)],[(5,Mb),(2000,aaY)],[.rowC 10250004 244 an,.rowC 10250005 258 cI,.mapC 10250003 tI .hnd,.ar ck],fun _=>0⟩),
 (100017,⟨[(5,.ref 5 0),(6,.val .hnd),(7,.val tI)],[(5,Mb),(2000,[.val .str,.val .str,.val .str,.val tI,.val tI,.val (.slice eS),.val (.slice ay),.map tI .hnd,.own 244 an,.own 258 cI,.val tI])],[.ar ck],fun _=>0⟩),
 (300021,⟨[(69,.val .bool)],[],[],fun _=>0⟩)]
def yL:au:=⟨[.box [.val aY,.val (.slice ay),.map tI .hnd,.row 244 an,.row 258 cI,.val tI],.val tI,.ar ck],[.val tI],fun x=>aZ x.1 x.2.1 x.2.2.1⟩
noncomputable def HW:Cx:=⟨tpr,[(170,nE),(185,wC),(216,Ar),(217,yO),(218,wA),(219,ve),(220,yN),(221,yM)],[]⟩
theorem H9:FB 171 yL:=fbk HW Fg none (by intro x;kernel_rfl) (cz ri (cz C9 (cz Jd (cz Ic (cz FD (cz Ez (cz Ib (cz Ia (.nil _))))))))) Tryz.func171
def LZ:List (Nat×Ann):=[(1,⟨[(0,.val (.slice (.int .u32)))],[],[],aP _⟩),
 (200001,⟨[(0,.val (.slice (.int .u32)))],[],[],fun _=>0⟩)]
def s8:au:=⟨[.val (.slice (.int .u32))],[.val (.slice (.int .u32))],fun x=>oV x.1⟩
noncomputable def P7:Cx:=⟨tpr,[],[]⟩
theorem zK:FB 150 s8:=fbk P7 LZ none (by intro x;kernel_rfl) (.nil _) Tryz.func150
def oT:au:=⟨[.val .bool,.val (.slice (.int .u32))],[.val bh],fun x=>iX x.1 x.2.1⟩
noncomputable def Vl:Cx:=⟨tpr,[(150,s8)],[]⟩
theorem tC:FB 115 oT:=fbk Vl [] none (by intro x;kernel_rfl) (cz zK (.nil _)) Tryz.func115
def U5:List (Nat×Ann):=[(100003,⟨[(0,.val tI),(2,.ref 2 0),(3,.val (.int .u64))],[(2,L9)],[],fun _=>0⟩)]
def ny:au:=⟨[.val tI],[.val bh],fun x=>kU x.1⟩
noncomputable def X2:Cx:=⟨tpr,[(115,oT)],[]⟩
theorem qj:FB 64 ny:=fbk X2 U5 none (by intro x;kernel_rfl) (cz tC (.nil _)) Tryz.func64
def SU:List (Nat×Ann):=[(6,⟨[(1,.val (.slice (.int .u32))),(5,.own 203 (.int .u32)),(6,.val (.int .u64)),(20,.val (.slice (.int .u32))),(21,.val tI),(22,.val tI)],[],[],aP _⟩),
 (100002,⟨[(0,.val (.slice (.int .u32))),(1,.val (.slice (.int .u32)))],[],[],fun _=>0⟩),
 (100010,⟨[(1,.val (.slice (.int .u32))),(5,.own 203 (.int .u32)),(6,.val (.int .u64)),(20,.val (.slice (.int .u32))),(21,.val tI),(22,.val tI)],[],[],fun _=>0⟩),
 (200006,⟨[(5,.own 203 (.int .u32)),(6,.val (.int .u64))],[],[],fun _=>0⟩)]
def NM:au:=⟨[.val (.slice (.int .u32)),.val (.slice (.int .u32))],[.row 203 (.int .u32)],fun x=>DJ x.1 x.2.1⟩
noncomputable def Ww:Cx:=⟨tpr,[],[]⟩
theorem WM:FB 116 NM:=fbk Ww SU none (by intro x;kernel_rfl) (.nil _) Tryz.func116
def PK:List (Nat×Ann):=[(6,⟨[(1,.val (.slice (.int .u32))),(5,.own 203 (.int .u32)),(6,.val (.int .u64)),(20,.val (.slice (.int .u32))),(21,.val tI),(22,.val tI)],[],[],aP _⟩),
 (100002,⟨[(0,.val (.slice (.int .u32))),(1,.val (.slice (.int .u32)))],[],[],fun _=>0⟩),
 (100010,⟨[(1,.val (.slice (.int .u32))),(5,.own 203 (.int .u32)),(6,.val (.int .u64)),(20,.val (.slice (.int .u32))),(21,.val tI),(22,.val tI)],[],[],fun _=>0⟩),
 (200006,⟨[(5,.own 203 (.int .u32)),(6,.val (.int .u64))],[],[],fun _=>0⟩)]
def JD:au:=⟨[.val (.slice (.int .u32)),.val (.slice (.int .u32))],[.val (.slice (.int .u32))],fun x=>IB x.1 x.2.1⟩
noncomputable def Tg:Cx:=⟨tpr,[],[]⟩
theorem Tt:FB 116 JD:=fbk Tg PK none (by intro x;kernel_rfl) (.nil _) Tryz.func116
def LY:List (Nat×Ann):=[(4,⟨[(0,.val (.slice (.int .u32))),(1,.val (.slice (.int .u32))),(5,.val tI)],[],[],aP _⟩),
 (200004,⟨[],[],[],fun _=>0⟩)]
def zW:au:=⟨[.val (.slice (.int .u32)),.val (.slice (.int .u32))],[.val tI],fun x=>tZ x.1 x.2.1⟩
noncomputable def P6:Cx:=⟨tpr,[],[]⟩
theorem FI:FB 117 zW:=fbk P6 LY none (by intro x;kernel_rfl) (.nil _) Tryz.func117
def QT:List (Nat×Ann):=[(4,⟨[(1,.val (.slice (.int .u32))),(5,.own 203 (.int .u32)),(6,.val (.int .u64)),(13,.val (.slice (.int .u32))),(14,.val tI),(15,.val tI)],[],[],aP _⟩),
 (100008,⟨[(1,.val (.slice (.int .u32))),(5,.own 203 (.int .u32)),(9,.val (.int .u64)),(13,.val (.slice (.int .u32))),(14,.val tI),(15,.val tI)],[],[],fun _=>0⟩),
 (200004,⟨[(5,.own 203 (.int .u32))],[],[],fun _=>0⟩)]
def D8:au:=⟨[.val (.slice (.int .u32)),.val (.slice (.int .u32))],[.val (.slice (.int .u32))],fun x=>xG x.1 x.2.1⟩
noncomputable def Vk:Cx:=⟨tpr,[(150,s8)],[]⟩
theorem Lg:FB 118 D8:=fbk Vk QT none (by intro x;kernel_rfl) (cz zK (.nil _)) Tryz.func118
def Oo:List (Nat×Ann):=[(4,⟨[(2,.ref 2 0),(3,.ref 3 0),(4,.ref 4 0),(5,.ref 5 0),(6,.rowR 12),(7,.val (.slice (.int .u32))),(8,.val tI)],[(2,Q6),(3,Q6),(4,L9),(5,L9)],[.rowC 12 203 (.int .u32)],aP _⟩),
 (200004,⟨[(4,.ref 4 0),(5,.ref 5 0),(6,.rowR 12),(7,.val (.slice (.int .u32)))],[(4,L9),(5,L9)],[.rowC 12 203 (.int .u32)],fun _=>0⟩)]
def HH:au:=⟨[.val bh,.val bh],[.val bh,.val bh],fun x=>wN x.1 x.2.1⟩
noncomputable def Rn:Cx:=⟨tpr,[(115,oT),(116,NM),(117,zW),(118,D8),(150,s8)],[]⟩
theorem RE:FB 82 HH:=fbk Rn Oo none (by intro x;kernel_rfl) (cz tC (cz WM (cz FI (cz Lg (cz zK (.nil _)))))) Tryz.func82
def qR:au:=⟨[.val bh],[.val tI],fun x=>jr x.1⟩
noncomputable def OH:Cx:=⟨tpr,[],[]⟩
theorem xZ:FB 41 qR:=fbk OH [] none (by intro x;kernel_rfl) (.nil _) Tryz.func41
def wH:au:=⟨[.val bh],[.val bh],fun x=>qa x.1⟩
noncomputable def Mw:Cx:=⟨tpr,[(115,oT)],[]⟩
theorem Dc:FB 81 wH:=fbk Mw [] none (by intro x;kernel_rfl) (cz tC (.nil _)) Tryz.func81
def LX:List (Nat×Ann):=[(5,⟨[(1,.val tI),(2,.ref 2 0),(6,.val (.int .u64)),(14,.val (.slice (.int .u32))),(15,.val tI),(16,.val tI)],[(2,Q6)],[],aP _⟩),
 (200005,⟨[(1,.val tI),(2,.ref 2 0),(6,.val (.int .u64))],[(2,Q6)],[],fun _=>0⟩)]
def Gx:au:=⟨[.val bh,.val tI],[.val tI,.val .bool],fun x=>zA x.1 x.2.1⟩
noncomputable def P5:Cx:=⟨tpr,[],[]⟩
theorem Qf:FB 121 Gx:=fbk P5 LX none (by intro x;kernel_rfl) (.nil _) Tryz.func121
end Go.Proofs.SeatA
end
