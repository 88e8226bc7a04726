/-
  Each function that the laws reach is as its plain model says. No condition.
-/
import Derived.Test.YtcpmaicaibdafaaGreatDoorZv
set_option linter.all false
set_option maxRecDepth 100000
noncomputable section
namespace Go.Proofs
abbrev tpr:=Tryz.prog
end Go.Proofs
namespace Go.Proofs.SeatA
open Go.Dn Go.Md Go.Proofs
theorem aN:Tryz.prog.follows .mixedOrders=true:=by kernel_rfl
def aU (X:Cx) (anns:List (Nat×Ann)) (ar:Option Ty) (fn:Func) (sp:aK):Prop:=∀ x,QU X anns ar fn sp x=sp.m x
theorem aL {X:Cx} {anns:List (Nat×Ann)} {ar:Option Ty} {fn:Func} {sp:aK} (h:aU X anns ar fn sp) (hX:cT X) (hm:X.P.follows .mixedOrders=true) {f:FuncId} (hf:X.P.funcs[f]? =some fn):aR X.P f sp:=acf hX hm sp anns ar hf fun x _ e=>(h x).trans e
def Nd:List CK:=[.val .bool,.own 203 (.int .u32)]
def R7:List CK:=[.val .bool,.val (.slice (.int .u32))]
def abQ:List CK:=[.val .bool,.val .bool,.val .bool,.val .bool,.val .bool,.val .bool]
def abR:List CK:=[.val .str,.val .str,.val .str,.val tI,.val tI,.val (.slice mK),.val (.slice bp),.mapR 10,.own 244 aH,.own 258 eG,.val tI]
def abS:List CK:=[.val .str,.val .str,.val .str,.val tI,.val tI,.val (.slice mK),.val (.slice bp),.mapR 10250003,.rowR 10250004,.rowR 10250005,.val tI]
def Nf:List CK:=[.val .str,.val .str,.val .str,.val tI,.val tI,.val (.slice mK)]
def R8:List CK:=[.val .str,.val .str,.val tI,.val tI,.val tI,.val .bool,.val (.slice cE),.val (.slice bU),.val (.slice b9)]
def Ng:List CK:=[.val tI,.val tI,.val tI,.val tI,.val tI,.val .str,.val tI,.val tI,.val .str,.val tI,.val tI,.val tI,.val tI]
def jS:aK:=⟨[.val .str],[.val .bool],fun x=>dI x.1⟩
noncomputable def V7:Cx:=⟨tpr,[(88,Dc)],[]⟩
theorem Uf:aU V7 [] none Tryz.f48 jS:=by intro x;kernel_rfl
theorem mS:aB tpr 48:=ay Tryz.func48 rfl (by decide)
theorem mX:aR tpr 48 jS:=aL Uf (.cons Tf SP (.nil _)) aN Tryz.func48
def dN:aK:=⟨[.val tI,.val tI,.val tI],[.val .bool],fun x=>b8 x.1 x.2.1 x.2.2.1⟩
noncomputable def T6:Cx:=⟨tpr,[],[]⟩
theorem Sr:aU T6 [] none Tryz.f35 dN:=by intro x;kernel_rfl
theorem eY:aB tpr 35:=ay Tryz.func35 rfl (by decide)
theorem fe:aR tpr 35 dN:=aL Sr (.nil _) aN Tryz.func35
def mH:aK:=⟨[.val tI],[.val .bool],fun x=>mV x.1⟩
noncomputable def Xi:Cx:=⟨tpr,[(35,dN)],[]⟩
theorem Wh:aU Xi [] none Tryz.f37 mH:=by intro x;kernel_rfl
theorem qF:aB tpr 37:=ay Tryz.func37 rfl (by decide)
theorem qN:aR tpr 37 mH:=aL Wh (.cons fe eY (.nil _)) aN Tryz.func37
def dW:aK:=⟨[.val aH],[.val tI],fun x=>cu x.1⟩
noncomputable def IM:Cx:=⟨tpr,[(35,dN)],[]⟩
theorem HR:aU IM [] none Tryz.f114 dW:=by intro x;kernel_rfl
theorem gT:aB tpr 114:=ay Tryz.func114 rfl (by decide)
theorem gV:aR tpr 114 dW:=aL HR (.cons fe eY (.nil _)) aN Tryz.func114
def Qw:List (Nat×Ann):=[(3,⟨[(3,.val tI),(4,.val tI),(5,.val tI)],[],[],bB _⟩),
 (200003,⟨[(3,.val tI)],[],[],fun _=>0⟩)]
def zT:aK:=⟨[.val tI],[.val tI],fun x=>Er x.1⟩
noncomputable def T7:Cx:=⟨tpr,[],[]⟩
theorem Ss:aU T7 Qw none Tryz.f215 zT:=by intro x;kernel_rfl
theorem Ki:aB tpr 215:=ay Tryz.func215 rfl (by decide)
theorem Kq:aR tpr 215 zT:=aL Ss (.nil _) aN Tryz.func215
def xZ:aK:=⟨[.val aH,.val tI,.val tI],[.val .bool],fun x=>uT x.1 x.2.1 x.2.2.1⟩
noncomputable def Sh:Cx:=⟨tpr,[(215,zT)],[]⟩
theorem Q4:aU Sh [] none Tryz.f210 xZ:=by intro x;kernel_rfl
theorem Ip:aB tpr 210:=ay Tryz.func210 rfl (by decide)
theorem Iv:aR tpr 210 xZ:=aL Q4 (.cons Kq Ki (.nil _)) aN Tryz.func210
def oz:aK:=⟨[.val aH,.val .bool],[.val tI],fun x=>nD x.1 x.2.1⟩
noncomputable def IU:Cx:=⟨tpr,[(114,dW),(210,xZ)],[]⟩
theorem HX:aU IU [] none Tryz.f156 oz:=by intro x;kernel_rfl
theorem AK:aB tpr 156:=ay Tryz.func156 rfl (by decide)
theorem AM:aR tpr 156 oz:=aL HX (.cons gV gT (.cons Iv Ip (.nil _))) aN Tryz.func156
def nG:aK:=⟨[.val aH],[.val tI],fun x=>lD x.1⟩
noncomputable def Mw:Cx:=⟨tpr,[(114,dW),(210,xZ)],[]⟩
theorem K6:aU Mw [] none Tryz.f157 nG:=by intro x;kernel_rfl
theorem xz:aB tpr 157:=ay Tryz.func157 rfl (by decide)
theorem xB:aR tpr 157 nG:=aL K6 (.cons gV gT (.cons Iv Ip (.nil _))) aN Tryz.func157
def KI:List (Nat×Ann):=[(300004,⟨[(17,.val .bool)],[],[],fun _=>0⟩)]
def yW:aK:=⟨[.val bT,.val tI],[.val tI],fun x=>xW x.1 x.2.1⟩
noncomputable def Nr:Cx:=⟨tpr,[(35,dN),(48,jS),(156,oz),(157,nG)],[]⟩
theorem ME:aU Nr KI none Tryz.f87 yW:=by intro x;kernel_rfl
theorem NT:aB tpr 87:=ay Tryz.func87 rfl (by decide)
theorem Om:aR tpr 87 yW:=aL ME (.cons fe eY (.cons mX mS (.cons AM AK (.cons xB xz (.nil _))))) aN Tryz.func87
def JO:List (Nat×Ann):=[(12,⟨[(1,.ref 1 0),(50,.val tI),(51,.val tI)],[(1,Nf)],[],bB _⟩),
 (200012,⟨[],[],[],fun _=>0⟩)]
def kM:aK:=⟨[.val bT],[.val tI],fun x=>lC x.1⟩
noncomputable def Mv:Cx:=⟨tpr,[(35,dN),(37,mH),(48,jS),(87,yW)],[]⟩
theorem K5:aU Mv JO none Tryz.f47 kM:=by intro x;kernel_rfl
theorem rF:aB tpr 47:=ay Tryz.func47 rfl (by decide)
theorem rG:aR tpr 47 kM:=aL K5 (.cons fe eY (.cons qN qF (.cons mX mS (.cons Om NT (.nil _))))) aN Tryz.func47
def tc:aK:=⟨[.val tI],[.val .bool],fun x=>sQ x.1⟩
noncomputable def Nq:Cx:=⟨tpr,[],[]⟩
theorem MD:aU Nq [] none Tryz.f185 tc:=by intro x;kernel_rfl
theorem EE:aB tpr 185:=ay Tryz.func185 rfl (by decide)
theorem EO:aR tpr 185 tc:=aL MD (.nil _) aN Tryz.func185
def Db:aK:=⟨[.val tI],[.val Yv],fun x=>C3 x.1⟩
noncomputable def Sg:Cx:=⟨tpr,[],[]⟩
theorem Q3:aU Sg [] none Tryz.f234 Db:=by intro x;kernel_rfl
theorem SO:aB tpr 234:=ay Tryz.func234 rfl (by decide)
theorem Te:aR tpr 234 Db:=aL Q3 (.nil _) aN Tryz.func234
def KJ:List (Nat×Ann):=[(100003,⟨[(1,.ref 1 0),(3,.ref 3 0)],[(1,Ng),(3,abQ)],[],fun _=>0⟩),
 (100007,⟨[(1,.ref 1 0),(3,.ref 3 0)],[(1,Ng),(3,abQ)],[],fun _=>0⟩),
 (300011,⟨[(30,.val .bool)],[],[],fun _=>0⟩),
 (300013,⟨[(39,.val .bool)],[],[],fun _=>0⟩),
 (300015,⟨[(58,.val .bool)],[],[],fun _=>0⟩),
 (300017,⟨[(66,.val .bool)],[],[],fun _=>0⟩)]
def yX:aK:=⟨[.val bp],[.val tI],fun x=>xX x.1⟩
noncomputable def Nt:Cx:=⟨tpr,[(35,dN),(37,mH),(48,jS),(156,oz),(157,nG),(234,Db)],[]⟩
theorem MG:aU Nt KJ none Tryz.f186 yX:=by intro x;kernel_rfl
theorem NU:aB tpr 186:=ay Tryz.func186 rfl (by decide)
theorem On:aR tpr 186 yX:=aL MG (.cons fe eY (.cons qN qF (.cons mX mS (.cons AM AK (.cons xB xz (.cons Te SO (.nil _))))))) aN Tryz.func186
def yV:aK:=⟨[.val bp],[.val tI],fun x=>xV x.1⟩
noncomputable def Np:Cx:=⟨tpr,[(35,dN),(37,mH),(185,tc),(186,yX)],[]⟩
theorem MC:aU Np [] none Tryz.f122 yV:=by intro x;kernel_rfl
theorem NS:aB tpr 122:=ay Tryz.func122 rfl (by decide)
theorem Ol:aR tpr 122 yV:=aL MC (.cons fe eY (.cons qN qF (.cons EO EE (.cons On NU (.nil _))))) aN Tryz.func122
def HM:List (Nat×Ann):=[(2,⟨[(22,.rowR 22),(23,.val tI),(24,.val tI)],[],[.rowC 22 3 tI],bB _⟩),
 (200002,⟨[],[],[],fun _=>0⟩)]
def u6:aK:=⟨[.val bp,.val bp],[.val tI],fun x=>oF x.1 x.2.1⟩
noncomputable def JZ:Cx:=⟨tpr,[],[]⟩
theorem I3:aU JZ HM none Tryz.f123 u6:=by intro x;kernel_rfl
theorem Kg:aB tpr 123:=ay Tryz.func123 rfl (by decide)
theorem Ko:aR tpr 123 u6:=aL I3 (.nil _) aN Tryz.func123
def JN:List (Nat×Ann):=[(5,⟨[(0,.val (.slice bp)),(3,.ref 3 0),(11,.val (.slice bp)),(12,.val tI),(13,.val tI)],[(3,[.val tI,.val tI,.val tI])],[],bB _⟩),
 (200005,⟨[],[],[],fun _=>0⟩),
 (300010,⟨[(34,.val .bool)],[],[],fun _=>0⟩)]
def nF:aK:=⟨[.val (.slice bp)],[.val tI],fun x=>nO x.1⟩
noncomputable def Mu:Cx:=⟨tpr,[(122,yV),(123,u6)],[]⟩
theorem K4:aU Mu JN none Tryz.f68 nF:=by intro x;kernel_rfl
theorem xy:aB tpr 68:=ay Tryz.func68 rfl (by decide)
theorem xA:aR tpr 68 nF:=aL K4 (.cons Ol NS (.cons Ko Kg (.nil _))) aN Tryz.func68
def oy:aK:=⟨[.val aH],[.val tI],fun x=>nw x.1⟩
noncomputable def IP:Cx:=⟨tpr,[(35,dN)],[]⟩
theorem HT:aU IP [] none Tryz.f13 oy:=by intro x;kernel_rfl
theorem AJ:aB tpr 13:=ay Tryz.func13 rfl (by decide)
theorem AL:aR tpr 13 oy:=aL HT (.cons fe eY (.nil _)) aN Tryz.func13
def C9:aK:=⟨[.val tI],[.val .bool],fun x=>Gs x.1⟩
noncomputable def Sa:Cx:=⟨tpr,[(35,dN)],[]⟩
theorem QV:aU Sa [] none Tryz.f89 C9:=by intro x;kernel_rfl
theorem SM:aB tpr 89:=ay Tryz.func89 rfl (by decide)
theorem Tc:aR tpr 89 C9:=aL QV (.cons fe eY (.nil _)) aN Tryz.func89
def RT:List (Nat×Ann):=[(3,⟨[(3,.val tI),(4,.val tI),(5,.val tI)],[],[],bB _⟩),
 (200003,⟨[(3,.val tI)],[],[],fun _=>0⟩)]
def Fl:aK:=⟨[.val tI],[.val tI],fun x=>FD x.1⟩
noncomputable def V6:Cx:=⟨tpr,[],[]⟩
theorem Ue:aU V6 RT none Tryz.f191 Fl:=by intro x;kernel_rfl
theorem Wl:aB tpr 191:=ay Tryz.func191 rfl (by decide)
theorem Wt:aR tpr 191 Fl:=aL Ue (.nil _) aN Tryz.func191
def s9:aK:=⟨[.val aH,.val tI],[.val .bool],fun x=>iy x.1 x.2.1⟩
noncomputable def Se:Cx:=⟨tpr,[(35,dN),(191,Fl)],[]⟩
theorem QY:aU Se [] none Tryz.f165 s9:=by intro x;kernel_rfl
theorem CQ:aB tpr 165:=ay Tryz.func165 rfl (by decide)
theorem CX:aR tpr 165 s9:=aL QY (.cons fe eY (.cons Wt Wl (.nil _))) aN Tryz.func165
def KH:List (Nat×Ann):=[(6,⟨[(0,.val (.slice cE)),(12,.val (.slice cE)),(13,.val tI),(14,.val tI)],[],[],bB _⟩),
 (200006,⟨[],[],[],fun _=>0⟩)]
def yT:aK:=⟨[.val (.slice cE)],[.val tI],fun x=>oP x.1⟩
noncomputable def Nn:Cx:=⟨tpr,[(48,jS),(114,dW),(165,s9)],[]⟩
theorem Mz:aU Nn KH none Tryz.f90 yT:=by intro x;kernel_rfl
theorem NQ:aB tpr 90:=ay Tryz.func90 rfl (by decide)
theorem Oi:aR tpr 90 yT:=aL Mz (.cons mX mS (.cons gV gT (.cons CX CQ (.nil _)))) aN Tryz.func90
def BS:aK:=⟨[.val cE,.val .str],[.val tI],fun x=>Fa x.1 x.2.1⟩
noncomputable def QI:Cx:=⟨tpr,[(228,yY)],[]⟩
theorem PB:aU QI [] none Tryz.f227 BS:=by intro x;kernel_rfl
theorem Rc:aB tpr 227:=ay Tryz.func227 rfl (by decide)
theorem Rs:aR tpr 227 BS:=aL PB (.cons Oo NV (.nil _)) aN Tryz.func227
def tv:List (Nat×Ann):=[(3,⟨[(0,.val (.slice cE)),(1,.val .str),(2,.val (.clo 227 .unit)),(8,.val tI),(9,.val tI),(10,.val tI)],[],[],bB _⟩),
 (200003,⟨[(0,.val (.slice cE)),(1,.val .str),(2,.val (.clo 227 .unit)),(8,.val tI),(9,.val tI)],[],[],fun _=>0⟩)]
def iC:aK:=⟨[.val (.slice cE),.val .str,.val (.clo 227 .unit)],[.val tI,.val .bool],fun x=>fm x.1 x.2.1 x.2.2.1⟩
noncomputable def uL:Cx:=⟨tpr,[(227,BS)],[]⟩
theorem ud:aU uL tv none Tryz.f226 iC:=by intro x;kernel_rfl
theorem uN:aB tpr 226:=ay Tryz.func226 rfl (by decide)
theorem uQ:aR tpr 226 iC:=aL ud (.cons Rs Rc (.nil _)) aN Tryz.func226
def uY:aK:=⟨[.val (.slice cE),.val .str],[.val tI,.val .bool],fun x=>tC x.1 x.2.1⟩
noncomputable def T4:Cx:=⟨tpr,[(226,iC)],[]⟩
theorem Sq:aU T4 [] none Tryz.f176 uY:=by intro x;kernel_rfl
theorem DL:aB tpr 176:=ay Tryz.func176 rfl (by decide)
theorem DQ:aR tpr 176 uY:=aL Sq (.cons uQ uN (.nil _)) aN Tryz.func176
def xY:aK:=⟨[.val aV,.val .str],[.val .bool],fun x=>kQ x.1 x.2.1⟩
noncomputable def Sf:Cx:=⟨tpr,[(176,uY)],[]⟩
theorem QZ:aU Sf [] none Tryz.f166 xY:=by intro x;kernel_rfl
theorem Io:aB tpr 166:=ay Tryz.func166 rfl (by decide)
theorem Iu:aR tpr 166 xY:=aL QZ (.cons DQ DL (.nil _)) aN Tryz.func166
def JK:List (Nat×Ann):=[(4,⟨[(2,.val .bool),(3,.ref 3 0),(13,.val (.slice b9)),(14,.val tI),(15,.val tI)],[(3,R8)],[],bB _⟩),
 (100012,⟨[(2,.val .bool),(3,.ref 3 0),(8,.ref 8 0),(13,.val (.slice b9)),(14,.val tI),(15,.val tI),(30,.val .bool)],[(3,R8),(8,[.val .bool,.val tI,.val tI,.val .str])],[],fun _=>0⟩),
 (200004,⟨[],[],[],fun _=>0⟩)]
def rN:aK:=⟨[.val aV,.val (.slice b9),.val .bool],[.val tI],fun x=>lu x.1 x.2.1 x.2.2.1⟩
noncomputable def Mo:Cx:=⟨tpr,[(114,dW),(165,s9),(166,xY)],[]⟩
theorem KX:aU Mo JK none Tryz.f92 rN:=by intro x;kernel_rfl
theorem Dt:aB tpr 92:=ay Tryz.func92 rfl (by decide)
theorem Dw:aR tpr 92 rN:=aL KX (.cons gV gT (.cons CX CQ (.cons Iu Io (.nil _)))) aN Tryz.func92
def Ar:aK:=⟨[.val aV,.val tI],[.val tI],fun x=>uG x.1 x.2.1⟩
noncomputable def Po:Cx:=⟨tpr,[(35,dN),(48,jS),(92,rN),(114,dW),(157,nG),(165,s9),(166,xY)],[]⟩
theorem Nz:aU Po [] none Tryz.f91 Ar:=by intro x;kernel_rfl
theorem PL:aB tpr 91:=ay Tryz.func91 rfl (by decide)
theorem PS:aR tpr 91 Ar:=aL Nz (.cons fe eY (.cons mX mS (.cons Dw Dt (.cons gV gT (.cons xB xz (.cons CX CQ (.cons Iu Io (.nil _)))))))) aN Tryz.func91
def IE:List (Nat×Ann):=[(15,⟨[(1,.ref 1 0),(48,.val tI),(49,.val tI)],[(1,R8)],[],bB _⟩),
 (200015,⟨[(1,.ref 1 0)],[(1,R8)],[],fun _=>0⟩)]
def iR:aK:=⟨[.val aV],[.val tI],fun x=>fS x.1⟩
noncomputable def KR:Cx:=⟨tpr,[(35,dN),(37,mH),(48,jS),(89,C9),(90,yT),(91,Ar),(92,rN)],[]⟩
theorem J4:aU KR IE none Tryz.f49 iR:=by intro x;kernel_rfl
theorem mo:aB tpr 49:=ay Tryz.func49 rfl (by decide)
theorem mw:aR tpr 49 iR:=aL J4 (.cons fe eY (.cons qN qF (.cons mX mS (.cons Tc SM (.cons Oi NQ (.cons PS PL (.cons Dw Dt (.nil _)))))))) aN Tryz.func49
def Ml:List (Nat×Ann):=[(13,⟨[(1,.val (.slice bp)),(3,.val (.slice aV)),(4,.ref 4 0),(6,.ref 6 0),(34,.val (.slice aV)),(35,.val tI),(36,.val tI)],[(4,Nf),(6,[.val tI,.val tI])],[],bB _⟩),
 (200013,⟨[(1,.val (.slice bp)),(3,.val (.slice aV)),(4,.ref 4 0),(6,.ref 6 0)],[(4,Nf),(6,[.val tI,.val tI])],[],fun _=>0⟩),
 (300018,⟨[(58,.val .bool)],[],[],fun _=>0⟩)]
def As:aK:=⟨[.val bT,.val (.slice bp),.val aH,.val (.slice aV)],[.box [.val bT,.val (.slice bp),.val aH,.val (.slice aV),.map tI (.slice cc),.map tI aq,.row 37 lR],.val tI],fun x=>zy x.1 x.2.1 x.2.2.1 x.2.2.2.1⟩
noncomputable def Pp:Cx:=⟨tpr,[(13,oy),(47,kM),(49,iR),(68,nF)],[]⟩
theorem NA:aU Pp Ml none Tryz.f30 As:=by intro x;kernel_rfl
theorem PN:aB tpr 30:=ay Tryz.func30 rfl (by decide)
theorem PT:aR tpr 30 As:=aL NA (.cons AL AJ (.cons rG rF (.cons mw mo (.cons xA xy (.nil _))))) aN Tryz.func30
def JL:List (Nat×Ann):=[(13,⟨[(1,.val (.slice bp)),(3,.val (.slice aV)),(4,.ref 4 0),(6,.ref 6 0),(34,.val (.slice aV)),(35,.val tI),(36,.val tI)],[(4,Nf),(6,[.val tI,.val tI])],[],bB _⟩),
 (200013,⟨[(1,.val (.slice bp)),(3,.val (.slice aV)),(4,.ref 4 0),(6,.ref 6 0)],[(4,Nf),(6,[.val tI,.val tI])],[],fun _=>0⟩),
 (300018,⟨[(58,.val .bool)],[],[],fun _=>0⟩)]
def xG:aK:=⟨[.val bT,.val (.slice bp),.val aH,.val (.slice aV)],[.val .hnd,.val tI],fun x=>vz x.1 x.2.1 x.2.2.1 x.2.2.2.1⟩
noncomputable def Mp:Cx:=⟨tpr,[(13,oy),(47,kM),(49,iR),(68,nF)],[]⟩
theorem KY:aU Mp JL none Tryz.f30 xG:=by intro x;kernel_rfl
theorem MJ:aB tpr 30:=ay Tryz.func30 rfl (by decide)
theorem MM:aR tpr 30 xG:=aL KY (.cons AL AJ (.cons rG rF (.cons mw mo (.cons xA xy (.nil _))))) aN Tryz.func30
def lS:aK:=⟨[.val tI,.val tI,.box [.val bT,.val (.slice bp),.val aH,.val (.slice aV),.map tI (.slice cc),.map tI aq,.row 37 lR],.box [.val tI]],[],fun x=>jb x.1 x.2.1 x.2.2.1 x.2.2.2.1⟩
noncomputable def xS:Cx:=⟨tpr,[],[]⟩
theorem Fb:∀ x,adw xS [] Tryz.f69 lS 2 x=lS.m x:=by intro x;kernel_rfl
noncomputable def acr:E5:= .nest 2 lS
theorem afz:aB tpr 69:=ay Tryz.func69 rfl (by decide)
theorem afA:OM Tryz.prog 69 acr:=ae3 (X:=xS) (.nil _) (by kernel_rfl) lS 2 [] (by kernel_rfl) (fun x y h=>(Fb x).trans h)
def qm:aK:=⟨[.val aV,.val (.ptr aV)],[.val .bool],fun x=>tw x.1 x.2.1⟩
noncomputable def FF:Cx:=⟨tpr,[],[]⟩
theorem Fc:aU FF [] none Tryz.f71 qm:=by intro x;kernel_rfl
theorem FQ:aB tpr 71:=ay Tryz.func71 rfl (by decide)
theorem FW:aR tpr 71 qm:=aL Fc (.nil _) aN Tryz.func71
def Az:List (Nat×Ann):=[(2,⟨[(0,.val (.slice aV)),(1,.val (.clo 71 (.ptr aV))),(7,.val tI),(8,.val tI)],[],[],bB _⟩),
 (200002,⟨[],[],[],fun _=>0⟩)]
def lW:aK:=⟨[.val (.slice aV),.val (.clo 71 (.ptr aV))],[.val tI],fun x=>nR x.1 x.2.1⟩
noncomputable def Cn:Cx:=⟨tpr,[(71,qm)],[]⟩
theorem Bq:aU Cn Az none Tryz.f124 lW:=by intro x;kernel_rfl
theorem Cr:aB tpr 124:=ay Tryz.func124 rfl (by decide)
theorem Cv:aR tpr 124 lW:=aL Bq (.cons FW FQ (.nil _)) aN Tryz.func124
def kz:aK:=⟨[.val (.slice aV),.val (.clo 71 (.ptr aV))],[.val .bool],fun x=>iW x.1 x.2.1⟩
noncomputable def Ab:Cx:=⟨tpr,[(124,lW)],[]⟩
theorem zB:aU Ab [] none Tryz.f70 kz:=by intro x;kernel_rfl
theorem Ag:aB tpr 70:=ay Tryz.func70 rfl (by decide)
theorem Am:aR tpr 70 kz:=aL zB (.cons Cv Cr (.nil _)) aN Tryz.func70
def wg:aK:=⟨[.val bT,.val (.slice bp)],[.val tI],fun x=>wO x.1 x.2.1⟩
noncomputable def QL:Cx:=⟨tpr,[(47,kM),(68,nF)],[]⟩
theorem PE:aU QL [] none Tryz.f98 wg:=by intro x;kernel_rfl
theorem GU:aB tpr 98:=ay Tryz.func98 rfl (by decide)
theorem Hg:aR tpr 98 wg:=aL PE (.cons rG rF (.cons xA xy (.nil _))) aN Tryz.func98
def nW:aK:=⟨[.val aH],[.val tI],fun x=>kU x.1⟩
noncomputable def T8:Cx:=⟨tpr,[(215,zT)],[]⟩
theorem Su:aU T8 [] none Tryz.f170 nW:=by intro x;kernel_rfl
theorem uM:aB tpr 170:=ay Tryz.func170 rfl (by decide)
theorem uP:aR tpr 170 nW:=aL Su (.cons Kq Ki (.nil _)) aN Tryz.func170
def IG:List (Nat×Ann):=[(3,⟨[(5,.ref 12 0),(14,.val (.slice mK)),(15,.val tI),(16,.val tI)],[(12,abR)],[.mapC 10 tI .hnd,.ar cq],bB _⟩),
 (200003,⟨[(5,.ref 12 0)],[(12,abR)],[.mapC 10 tI .hnd,.ar cq],fun _=>0⟩)]
def qq:aK:=⟨[.val bT,.val (.slice bp),.ar cq],[.box [.val bT,.val (.slice bp),.map tI .hnd,.row 244 aH,.row 258 eG,.val tI]],fun x=>mP x.1 x.2.1 x.2.2.1⟩
noncomputable def KV:Cx:=⟨tpr,[(170,nW)],[]⟩
theorem J8:aU KV IG none Tryz.f99 qq:=by intro x;kernel_rfl
theorem CR:aB tpr 99:=ay Tryz.func99 rfl (by decide)
theorem CY:aR tpr 99 qq:=aL J8 (.cons uP uM (.nil _)) aN Tryz.func99
def u7:aK:=⟨[.box [.val bT,.val (.slice bp),.map tI .hnd,.row 244 aH,.row 258 eG,.val tI],.val tI,.ar cq],[.val tI],fun x=>sP x.1 x.2.1 x.2.2.1⟩
noncomputable def J2:Cx:=⟨tpr,[],[]⟩
theorem I4:aU J2 [] none Tryz.f216 u7:=by intro x;kernel_rfl
theorem Kh:aB tpr 216:=ay Tryz.func216 rfl (by decide)
theorem Kp:aR tpr 216 u7:=aL I4 (.nil _) aN Tryz.func216
def Gv:List (Nat×Ann):=[(300002,⟨[(27,.val .bool)],[],[],fun _=>0⟩)]
def tW:aK:=⟨[.box [.val bT,.val (.slice bp),.map tI .hnd,.row 244 aH,.row 258 eG,.val tI],.val .hnd,.val tI,.ar cq],[.val tI],fun x=>rK x.1 x.2.1 x.2.2.1 x.2.2.2.1⟩
noncomputable def IY:Cx:=⟨tpr,[],[]⟩
theorem H7:aU IY Gv none Tryz.f217 tW:=by intro x;kernel_rfl
theorem Jf:aB tpr 217:=ay Tryz.func217 rfl (by decide)
theorem Jq:aR tpr 217 tW:=aL H7 (.nil _) aN Tryz.func217
def qX:aK:=⟨[.box [.val bT,.val (.slice bp),.map tI .hnd,.row 244 aH,.row 258 eG,.val tI],.val .hnd,.val bp,.ar cq],[.val tI],fun x=>oW x.1 x.2.1 x.2.2.1 x.2.2.2.1⟩
noncomputable def GB:Cx:=⟨tpr,[(170,nW)],[]⟩
theorem FK:aU GB [] none Tryz.f218 qX:=by intro x;kernel_rfl
theorem GV:aB tpr 218:=ay Tryz.func218 rfl (by decide)
theorem Hh:aR tpr 218 qX:=aL FK (.cons uP uM (.nil _)) aN Tryz.func218
def td:aK:=⟨[.val .hnd,.arR cq],[.val tI],fun x=>pe x.1 x.2.1⟩
noncomputable def Ns:Cx:=⟨tpr,[],[]⟩
theorem MF:aU Ns [] none Tryz.f105 td:=by intro x;kernel_rfl
theorem EF:aB tpr 105:=ay Tryz.func105 rfl (by decide)
theorem EP:aR tpr 105 td:=aL MF (.nil _) aN Tryz.func105
def qo:aK:=⟨[.box [.val bT,.val (.slice bp),.map tI .hnd,.row 244 aH,.row 258 eG,.val tI],.val .hnd,.val bp,.ar cq],[.val tI],fun x=>ou x.1 x.2.1 x.2.2.1 x.2.2.2.1⟩
noncomputable def FG:Cx:=⟨tpr,[(105,td),(170,nW)],[]⟩
theorem Fe:aU FG [] none Tryz.f219 qo:=by intro x;kernel_rfl
theorem FR:aB tpr 219:=ay Tryz.func219 rfl (by decide)
theorem FX:aR tpr 219 qo:=aL Fe (.cons EP EF (.cons uP uM (.nil _))) aN Tryz.func219
def tV:aK:=⟨[.box [.val bT,.val (.slice bp),.map tI .hnd,.row 244 aH,.row 258 eG,.val tI],.val .hnd,.val bp,.ar cq],[.val tI],fun x=>rJ x.1 x.2.1 x.2.2.1 x.2.2.2.1⟩
noncomputable def IX:Cx:=⟨tpr,[],[]⟩
theorem H6:aU IX [] none Tryz.f220 tV:=by intro x;kernel_rfl
theorem Je:aB tpr 220:=ay Tryz.func220 rfl (by decide)
theorem Jp:aR tpr 220 tV:=aL H6 (.nil _) aN Tryz.func220
def tU:aK:=⟨[.box [.val bT,.val (.slice bp),.map tI .hnd,.row 244 aH,.row 258 eG,.val tI],.val .hnd,.val bp,.ar cq],[.val tI],fun x=>rI x.1 x.2.1 x.2.2.1 x.2.2.2.1⟩
noncomputable def IW:Cx:=⟨tpr,[(170,nW)],[]⟩
theorem HZ:aU IW [] none Tryz.f221 tU:=by intro x;kernel_rfl
theorem Jd:aB tpr 221:=ay Tryz.func221 rfl (by decide)
theorem Jo:aR tpr 221 tU:=aL HZ (.cons uP uM (.nil _)) aN Tryz.func221
def Gu:List (Nat×Ann):=[(100011,⟨[(0,.ref 2000 0),(1,.val tI),(5,.ref 5 0),(6,.val .hnd),(31,.val tI),(36,.val .bool)],[(5,Ng),(2000,abS)],[.rowC 10250004 244 aH,.rowC 10250005 258 eG,.mapC 10250003 tI .hnd,.ar cq],fun _=>0⟩),
 (100015,⟨[(0,.ref 2000 0),(5,.ref 5 0),(6,.val .hnd),(31,.val tI),(44,.val .bool)],[(5,Ng),(2000,abS)],[.rowC 10250004 244 aH,.rowC 10250005 258 eG,.mapC 10250003 tI .hnd,.ar cq],fun _=>0⟩),
 (100017,⟨[(5,.ref 5 0),(6,.val .hnd),(7,.val tI)],[(5,Ng),(2000,[.val .str,.val .str,.val .str,.val tI,.val tI,.val (.slice mK),.val (.slice bp),.map tI .hnd,.own 244 aH,.own 258 eG,.val tI])],[.ar cq],fun _=>0⟩),
 (300021,⟨[(69,.val .bool)],[],[],fun _=>0⟩)]
def tT:aK:=⟨[.box [.val bT,.val (.slice bp),.map tI .hnd,.row 244 aH,.row 258 eG,.val tI],.val tI,.ar cq],[.val tI],fun x=>bz x.1 x.2.1 x.2.2.1⟩
noncomputable def IV:Cx:=⟨tpr,[(170,nW),(185,tc),(216,u7),(217,tW),(218,qX),(219,qo),(220,tV),(221,tU)],[]⟩
theorem HY:aU IV Gu none Tryz.f171 tT:=by intro x;kernel_rfl
theorem Jc:aB tpr 171:=ay Tryz.func171 rfl (by decide)
theorem Jn:aR tpr 171 tT:=aL HY (.cons uP uM (.cons EO EE (.cons Kp Kh (.cons Jq Jf (.cons Hh GV (.cons FX FR (.cons Jp Je (.cons Jo Jd (.nil _))))))))) aN Tryz.func171
def M7:List (Nat×Ann):=[(1,⟨[(0,.val (.slice (.int .u32)))],[],[],bB _⟩),
 (200001,⟨[(0,.val (.slice (.int .u32)))],[],[],fun _=>0⟩)]
def q9:aK:=⟨[.val (.slice (.int .u32))],[.val (.slice (.int .u32))],fun x=>sj x.1⟩
noncomputable def QT:Cx:=⟨tpr,[],[]⟩
theorem PK:aU QT M7 none Tryz.f150 q9:=by intro x;kernel_rfl
theorem BD:aB tpr 150:=ay Tryz.func150 rfl (by decide)
theorem BK:aR tpr 150 q9:=aL PK (.nil _) aN Tryz.func150
def mY:aK:=⟨[.val .bool,.val (.slice (.int .u32))],[.val aq],fun x=>jZ x.1 x.2.1⟩
noncomputable def Wb:Cx:=⟨tpr,[(150,q9)],[]⟩
theorem Uj:aU Wb [] none Tryz.f115 mY:=by intro x;kernel_rfl
theorem rX:aB tpr 115:=ay Tryz.func115 rfl (by decide)
theorem rZ:aR tpr 115 mY:=aL Uj (.cons BK BD (.nil _)) aN Tryz.func115
def VV:List (Nat×Ann):=[(100003,⟨[(0,.val tI),(2,.ref 2 0),(3,.val (.int .u64))],[(2,Nd)],[],fun _=>0⟩)]
def fU:aK:=⟨[.val tI],[.val aq],fun x=>bJ x.1⟩
noncomputable def YY:Cx:=⟨tpr,[(115,mY)],[]⟩
theorem Xo:aU YY VV none Tryz.f64 fU:=by intro x;kernel_rfl
theorem iF:aB tpr 64:=ay Tryz.func64 rfl (by decide)
theorem iG:aR tpr 64 fU:=aL Xo (.cons rZ rX (.nil _)) aN Tryz.func64
def TR:List (Nat×Ann):=[(6,⟨[(1,.val (.slice (.int .u32))),(5,.own 203 (.int .u32)),(6,.val (.int .u64)),(20,.val (.slice (.int .u32))),(21,.val tI),(22,.val tI)],[],[],bB _⟩),
 (100002,⟨[(0,.val (.slice (.int .u32))),(1,.val (.slice (.int .u32)))],[],[],fun _=>0⟩),
 (100010,⟨[(1,.val (.slice (.int .u32))),(5,.own 203 (.int .u32)),(6,.val (.int .u64)),(20,.val (.slice (.int .u32))),(21,.val tI),(22,.val tI)],[],[],fun _=>0⟩),
 (200006,⟨[(5,.own 203 (.int .u32)),(6,.val (.int .u64))],[],[],fun _=>0⟩)]
def HB:aK:=⟨[.val (.slice (.int .u32)),.val (.slice (.int .u32))],[.row 203 (.int .u32)],fun x=>E2 x.1 x.2.1⟩
noncomputable def Xj:Cx:=⟨tpr,[],[]⟩
theorem Wi:aU Xj TR none Tryz.f116 HB:=by intro x;kernel_rfl
theorem XE:aB tpr 116:=ay Tryz.func116 rfl (by decide)
theorem X3:aR tpr 116 HB:=aL Wi (.nil _) aN Tryz.func116
def Qy:List (Nat×Ann):=[(6,⟨[(1,.val (.slice (.int .u32))),(5,.own 203 (.int .u32)),(6,.val (.int .u64)),(20,.val (.slice (.int .u32))),(21,.val tI),(22,.val tI)],[],[],bB _⟩),
 (100002,⟨[(0,.val (.slice (.int .u32))),(1,.val (.slice (.int .u32)))],[],[],fun _=>0⟩),
 (100010,⟨[(1,.val (.slice (.int .u32))),(5,.own 203 (.int .u32)),(6,.val (.int .u64)),(20,.val (.slice (.int .u32))),(21,.val tI),(22,.val tI)],[],[],fun _=>0⟩),
 (200006,⟨[(5,.own 203 (.int .u32)),(6,.val (.int .u64))],[],[],fun _=>0⟩)]
def D3:aK:=⟨[.val (.slice (.int .u32)),.val (.slice (.int .u32))],[.val (.slice (.int .u32))],fun x=>JG x.1 x.2.1⟩
noncomputable def Ua:Cx:=⟨tpr,[],[]⟩
theorem Sw:aU Ua Qy none Tryz.f116 D3:=by intro x;kernel_rfl
theorem Up:aB tpr 116:=ay Tryz.func116 rfl (by decide)
theorem UE:aR tpr 116 D3:=aL Sw (.nil _) aN Tryz.func116
def M5:List (Nat×Ann):=[(4,⟨[(0,.val (.slice (.int .u32))),(1,.val (.slice (.int .u32))),(5,.val tI)],[],[],bB _⟩),
 (200004,⟨[],[],[],fun _=>0⟩)]
def wh:aK:=⟨[.val (.slice (.int .u32)),.val (.slice (.int .u32))],[.val tI],fun x=>wT x.1 x.2.1⟩
noncomputable def QS:Cx:=⟨tpr,[],[]⟩
theorem PJ:aU QS M5 none Tryz.f117 wh:=by intro x;kernel_rfl
theorem GZ:aB tpr 117:=ay Tryz.func117 rfl (by decide)
theorem Ho:aR tpr 117 wh:=aL PJ (.nil _) aN Tryz.func117
def RU:List (Nat×Ann):=[(4,⟨[(1,.val (.slice (.int .u32))),(5,.own 203 (.int .u32)),(6,.val (.int .u64)),(13,.val (.slice (.int .u32))),(14,.val tI),(15,.val tI)],[],[],bB _⟩),
 (100008,⟨[(1,.val (.slice (.int .u32))),(5,.own 203 (.int .u32)),(9,.val (.int .u64)),(13,.val (.slice (.int .u32))),(14,.val tI),(15,.val tI)],[],[],fun _=>0⟩),
 (200004,⟨[(5,.own 203 (.int .u32))],[],[],fun _=>0⟩)]
def Bb:aK:=⟨[.val (.slice (.int .u32)),.val (.slice (.int .u32))],[.val (.slice (.int .u32))],fun x=>zV x.1 x.2.1⟩
noncomputable def Wa:Cx:=⟨tpr,[(150,q9)],[]⟩
theorem Ui:aU Wa RU none Tryz.f118 Bb:=by intro x;kernel_rfl
theorem Mc:aB tpr 118:=ay Tryz.func118 rfl (by decide)
theorem Mg:aR tpr 118 Bb:=aL Ui (.cons BK BD (.nil _)) aN Tryz.func118
def Pk:List (Nat×Ann):=[(4,⟨[(2,.ref 2 0),(3,.ref 3 0),(4,.ref 4 0),(5,.ref 5 0),(6,.rowR 12),(7,.val (.slice (.int .u32))),(8,.val tI)],[(2,R7),(3,R7),(4,Nd),(5,Nd)],[.rowC 12 203 (.int .u32)],bB _⟩),
 (200004,⟨[(4,.ref 4 0),(5,.ref 5 0),(6,.rowR 12),(7,.val (.slice (.int .u32)))],[(4,Nd),(5,Nd)],[.rowC 12 203 (.int .u32)],fun _=>0⟩)]
def tg:aK:=⟨[.val aq,.val aq],[.val aq,.val aq],fun x=>rq x.1 x.2.1⟩
noncomputable def Si:Cx:=⟨tpr,[(115,mY),(116,HB),(117,wh),(118,Bb),(150,q9)],[]⟩
theorem Q5:aU Si Pk none Tryz.f82 tg:=by intro x;kernel_rfl
theorem CS:aB tpr 82:=ay Tryz.func82 rfl (by decide)
theorem CZ:aR tpr 82 tg:=aL Q5 (.cons rZ rX (.cons X3 XE (.cons Ho GZ (.cons Mg Mc (.cons BK BD (.nil _)))))) aN Tryz.func82
def ir:aK:=⟨[.val aq],[.val tI],fun x=>aG x.1⟩
noncomputable def Pv:Cx:=⟨tpr,[],[]⟩
theorem NG:aU Pv [] none Tryz.f41 ir:=by intro x;kernel_rfl
theorem kr:aB tpr 41:=ay Tryz.func41 rfl (by decide)
theorem ku:aR tpr 41 ir:=aL NG (.nil _) aN Tryz.func41
def oI:aK:=⟨[.val aq],[.val aq],fun x=>aI x.1⟩
noncomputable def Nu:Cx:=⟨tpr,[(115,mY)],[]⟩
theorem MH:aU Nu [] none Tryz.f81 oI:=by intro x;kernel_rfl
theorem yx:aB tpr 81:=ay Tryz.func81 rfl (by decide)
theorem yF:aR tpr 81 oI:=aL MH (.cons rZ rX (.nil _)) aN Tryz.func81
def M4:List (Nat×Ann):=[(5,⟨[(1,.val tI),(2,.ref 2 0),(6,.val (.int .u64)),(14,.val (.slice (.int .u32))),(15,.val tI),(16,.val tI)],[(2,R7)],[],bB _⟩),
 (200005,⟨[(1,.val tI),(2,.ref 2 0),(6,.val (.int .u64))],[(2,R7)],[],fun _=>0⟩)]
def nY:aK:=⟨[.val aq,.val tI],[.val tI,.val .bool],fun x=>pJ x.1 x.2.1⟩
noncomputable def QN:Cx:=⟨tpr,[],[]⟩
theorem PG:aU QN M4 none Tryz.f121 nY:=by intro x;kernel_rfl
theorem vJ:aB tpr 121:=ay Tryz.func121 rfl (by decide)
theorem vS:aR tpr 121 nY:=aL PG (.nil _) aN Tryz.func121
end Go.Proofs.SeatA
end
