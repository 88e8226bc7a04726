/-
  Each function that the law reaches is as its plain model says, a part. No condition.
-/
import Derived.Test.YtakjkcibbeeekaaGreatDoorYq
import Derived.Test.YtakjkcibbeeekaaGreatDoorYe
set_option maxRecDepth 100000
noncomputable section
namespace Go.Proofs.SeatU
open Go.Dn Go.Md Go.Proofs
def GV:List CK:=[.val (.slice aU)]
def Sq:List CK:=[.val .bool,.val (.slice (.int .u32))]
def XG:List CK:=[.val .str,.val .str,.val .str,.val tI,.val tI,.val (.slice jN),.val (.slice bh),.map tI .hnd,.own 258 aC,.own 260 eW,.val tI]
def Sr:List CK:=[.val .str,.val .str,.val .str,.val tI,.val tI,.val (.slice jN),.val (.slice bh),.mapR 10250003,.rowR 10250004,.rowR 10250005,.val tI]
def Ss:List CK:=[.val .str,.val .str,.val .str,.val tI,.val tI,.val (.slice jN),.val (.slice bh),.val tI,.val tI,.val (.slice bB),.map tI (.slice aU),.map tI aA,.own 214 ng]
def EW:List CK:=[.val .str,.val .str,.val .str,.val tI,.val tI,.val (.slice jN)]
def abS:List CK:=[.val .str,.val .str,.val tI,.val tI,.val tI,.val .bool,.own 141 gW,.own 145 jM,.own 210 qD]
def abT:List CK:=[.val .str,.val .str,.val tI,.val tI,.val tI,.val .bool,.rowR 60,.own 145 jM,.own 210 qD]
def AU:List CK:=[.val .str,.val .str,.val tI,.val tI,.val tI,.val .bool,.val (.slice gW),.val (.slice jM),.val (.slice qD)]
def XH:List CK:=[.val .str,.val .str,.val tI,.val tI]
def Un:List CK:=[.val tI,.val tI,.val tI,.val tI,.val tI,.val .str,.val tI,.val tI,.val .str,.val tI,.val tI,.val tI,.val tI]
def Ce:List CK:=[.val tI,.val tI]
def Ct:ay:=⟨[.box [.val bJ,.val (.slice bh),.map tI .hnd,.row 258 aC,.row 260 eW,.val tI],.val tI,.ar bP],[.val tI],fun x=>sY x.1 x.2.1 x.2.2.1⟩
noncomputable def J3:Cx:=⟨tpr,[],[]⟩
theorem Kf:FB 190 Ct:=fbk J3 [] none (by intro x;kernel_rfl) (.nil _) Tryz.func190
def GQ:List (Nat×Ann):=[(300002,⟨[(27,.val .bool)],[],[],fun _=>0⟩)]
def Bh:ay:=⟨[.box [.val bJ,.val (.slice bh),.map tI .hnd,.row 258 aC,.row 260 eW,.val tI],.val .hnd,.val tI,.ar bP],[.val tI],fun x=>rD x.1 x.2.1 x.2.2.1 x.2.2.2.1⟩
noncomputable def Jj:Cx:=⟨tpr,[],[]⟩
theorem Jr:FB 191 Bh:=fbk Jj GQ none (by intro x;kernel_rfl) (.nil _) Tryz.func191
def zC:ay:=⟨[.box [.val bJ,.val (.slice bh),.map tI .hnd,.row 258 aC,.row 260 eW,.val tI],.val .hnd,.val bh,.ar bP],[.val tI],fun x=>oK x.1 x.2.1 x.2.2.1 x.2.2.2.1⟩
noncomputable def GX:Cx:=⟨tpr,[(147,qI)],[]⟩
theorem Hi:FB 192 zC:=fbk GX [] none (by intro x;kernel_rfl) (cz vf (.nil _)) Tryz.func192
def tV:ay:=⟨[.val .hnd,.arR bP],[.val tI],fun x=>mG x.1 x.2.1⟩
noncomputable def NP:Cx:=⟨tpr,[],[]⟩
theorem yW:FB 49 tV:=fbk NP [] none (by intro x;kernel_rfl) (.nil _) Tryz.func49
def yJ:ay:=⟨[.box [.val bJ,.val (.slice bh),.map tI .hnd,.row 258 aC,.row 260 eW,.val tI],.val .hnd,.val bh,.ar bP],[.val tI],fun x=>nV x.1 x.2.1 x.2.2.1 x.2.2.2.1⟩
noncomputable def Gm:Cx:=⟨tpr,[(49,tV),(147,qI)],[]⟩
theorem Gq:FB 193 yJ:=fbk Gm [] none (by intro x;kernel_rfl) (cz yW (cz vf (.nil _))) Tryz.func193
def Bg:ay:=⟨[.box [.val bJ,.val (.slice bh),.map tI .hnd,.row 258 aC,.row 260 eW,.val tI],.val .hnd,.val bh,.ar bP],[.val tI],fun x=>rC x.1 x.2.1 x.2.2.1 x.2.2.2.1⟩
noncomputable def Ji:Cx:=⟨tpr,[],[]⟩
theorem Jq:FB 194 Bg:=fbk Ji [] none (by intro x;kernel_rfl) (.nil _) Tryz.func194
def Bf:ay:=⟨[.box [.val bJ,.val (.slice bh),.map tI .hnd,.row 258 aC,.row 260 eW,.val tI],.val .hnd,.val bh,.ar bP],[.val tI],fun x=>rB x.1 x.2.1 x.2.2.1 x.2.2.2.1⟩
noncomputable def Jh:Cx:=⟨tpr,[(147,qI)],[]⟩
theorem Jp:FB 195 Bf:=fbk Jh [] none (by intro x;kernel_rfl) (cz vf (.nil _)) Tryz.func195
def GP:List (Nat×Ann):=[(100011,⟨[(0,.ref 2000 0),(1,.val tI),(5,.ref 5 0),(6,.val .hnd),(31,.val tI),(36,.val .bool)],[(5,Un),(2000,Sr)],[.rowC 10250004 258 aC,.rowC 10250005 260 eW,.mapC 10250003 tI .hnd,.ar bP],fun _=>0⟩),
 (100015,⟨[(0,.ref 2000 0),(5,.ref 5 0),(6,.val .hnd),(31,.val tI),(44,.val .bool)],[(5,Un),(2000,Sr)],[.rowC 10250004 258 aC,.rowC 10250005 260 eW,.mapC 10250003 tI .hnd,.ar bP],fun _=>0⟩),
 (100017,⟨[(5,.ref 5 0),(6,.val .hnd),(7,.val tI)],[(5,Un),(2000,XG)],[.ar bP],fun _=>0⟩),
 (300021,⟨[(69,.val .bool)],[],[],fun _=>0⟩)]
def Be:ay:=⟨[.box [.val bJ,.val (.slice bh),.map tI .hnd,.row 258 aC,.row 260 eW,.val tI],.val tI,.ar bP],[.val tI],fun x=>bp x.1 x.2.1 x.2.2.1⟩
noncomputable def Jg:Cx:=⟨tpr,[(147,qI),(190,Ct),(191,Bh),(192,zC),(193,yJ),(194,Bg),(195,Bf),(196,zD)],[]⟩
theorem Jo:FB 148 Be:=fbk Jg GP none (by intro x;kernel_rfl) (cz vf (cz Kf (cz Jr (cz Hi (cz Gq (cz Jq (cz Jp (cz E4 (.nil _))))))))) Tryz.func148
def MJ:ay:=⟨[.val tI],[.val aC],fun x=>s6 x.1⟩
noncomputable def WB:Cx:=⟨tpr,[(52,qZ),(75,kS)],[]⟩
theorem WK:FB 92 MJ:=fbk WB [] none (by intro x;kernel_rfl) (cz wm (cz l8 (.nil _))) Tryz.func92
def PO:List (Nat×Ann):=[(1,⟨[(1,.ref 1 0),(2,.ref 2 0)],[(1,Ce),(2,Ce)],[],aV _⟩),
 (200001,⟨[(1,.ref 1 0),(2,.ref 2 0)],[(1,Ce),(2,Ce)],[],fun _=>0⟩),
 (300001,⟨[(11,.val .bool)],[],[],fun _=>0⟩)]
def IM:ay:=⟨[.val aC],[.val aC],fun x=>CO x.1⟩
noncomputable def Sw:Cx:=⟨tpr,[],[]⟩
theorem SR:FB 93 IM:=fbk Sw PO none (by intro x;kernel_rfl) (.nil _) Tryz.func93
def yb:ay:=⟨[.val .hnd,.arR bP],[.val aU],fun x=>nN x.1 x.2.1⟩
noncomputable def MY:Cx:=⟨tpr,[(49,tV),(92,MJ),(93,IM)],[]⟩
theorem DQ:FB 37 yb:=fbk MY [] none (by intro x;kernel_rfl) (cz yW (cz WK (cz SR (.nil _)))) Tryz.func37
def Ie:List (Nat×Ann):=[(1,⟨[(0,.ref 2000 0),(1,.val tI),(10,.val (.slice bh)),(11,.val tI),(12,.val tI)],[(2000,XG)],[.ar bP],aV _⟩),
 (200001,⟨[],[(2000,XG)],[.ar bP],fun _=>0⟩)]
def vw:ay:=⟨[.box [.val bJ,.val (.slice bh),.map tI .hnd,.row 258 aC,.row 260 eW,.val tI],.val tI,.ar bP],[],fun x=>lK x.1 x.2.1 x.2.2.1⟩
noncomputable def J4:Cx:=⟨tpr,[(37,yb),(148,Be)],[]⟩
theorem Cf:FB 89 vw:=fbk J4 Ie none (by intro x;kernel_rfl) (cz DQ (cz Jo (.nil _))) Tryz.func89
def EO:ay:=⟨[.val bJ,.val (.slice bh),.val tI,.ar bP],[.box [.val bJ,.val (.slice bh),.map tI .hnd,.row 258 aC,.row 260 eW,.val tI],.val tI],fun x=>Eg x.1 x.2.1 x.2.2.1 x.2.2.2.1⟩
noncomputable def Za:Cx:=⟨tpr,[(19,ou),(87,BZ),(88,wP),(89,vw)],[]⟩
theorem Jn:FB 35 EO:=fbk Za [] none (by intro x;kernel_rfl) (cz qL (cz Hh (cz C2 (cz Cf (.nil _))))) Tryz.func35
def BC:ay:=⟨[.val bJ,.val (.slice bh),.val tI,.ar bP],[.val .hnd,.val tI],fun x=>Ak x.1 x.2.1 x.2.2.1 x.2.2.2.1⟩
noncomputable def WA:Cx:=⟨tpr,[(19,ou),(87,BZ),(88,wP),(89,vw)],[]⟩
theorem FM:FB 35 BC:=fbk WA [] none (by intro x;kernel_rfl) (cz qL (cz Hh (cz C2 (cz Cf (.nil _))))) Tryz.func35
def FG:List (Nat×Ann):=[(3,⟨[(0,.ref 2000 0),(3,.own 117 .hnd),(11,.rowR 11),(12,.val tI),(13,.val tI)],[(2000,Sr)],[.rowC 11 3 tI,.rowC 10250004 258 aC,.rowC 10250005 260 eW,.mapC 10250003 tI .hnd],aV _⟩),
 (200003,⟨[(3,.own 117 .hnd)],[(2000,Sr)],[.rowC 10250004 258 aC,.rowC 10250005 260 eW,.mapC 10250003 tI .hnd],fun _=>0⟩)]
def q7:ay:=⟨[.box [.val bJ,.val (.slice bh),.map tI .hnd,.row 258 aC,.row 260 eW,.val tI]],[.row 117 .hnd],fun x=>lN x.1⟩
noncomputable def GY:Cx:=⟨tpr,[],[(90,aci),(91,acj)]⟩
theorem yV:FB 36 q7:=fbk GY FG none (by intro x;kernel_rfl) (.Su afR afN (.Su afS afO (.nil _))) Tryz.func36
def No:List (Nat×Ann):=[(6,⟨[(10,.own 119 aU),(24,.rowR 60688),(25,.val tI),(26,.val tI)],[],[.rowC 60688 117 .hnd,.ar bP],aV _⟩),
 (200006,⟨[(10,.own 119 aU)],[],[.ar bP],fun _=>0⟩)]
def wO:ay:=⟨[.val bJ,.val (.slice bh),.val tI],[.val (.slice aU),.val tI],fun x=>pn x.1 x.2.1 x.2.2.1⟩
noncomputable def Ri:Cx:=⟨tpr,[(35,BC),(35,EO),(36,q7),(37,yb)],[]⟩
theorem BL:FB 11 wO:=fbk Ri No (some bP) (by intro x;kernel_rfl) (cz FM (cz Jn (cz yV (cz DQ (.nil _))))) Tryz.func11
def I8:List (Nat×Ann):=[(4,⟨[(9,.val (.slice aY)),(10,.val tI),(11,.val tI)],[],[],aV _⟩),
 (200004,⟨[],[],[],fun _=>0⟩)]
def Dv:ay:=⟨[.val (.slice aY)],[.val tI],fun x=>uT x.1⟩
noncomputable def Lf:Cx:=⟨tpr,[(18,gI),(94,eV)],[]⟩
theorem Lu:FB 38 Dv:=fbk Lf I8 none (by intro x;kernel_rfl) (cz ic (cz fZ (.nil _))) Tryz.func38
def I9:List (Nat×Ann):=[(4,⟨[(0,.val (.slice aU)),(9,.val (.slice aU)),(10,.val tI),(11,.val tI)],[],[],aV _⟩),
 (200004,⟨[],[],[],fun _=>0⟩)]
def Dw:ay:=⟨[.val (.slice aU)],[.val tI],fun x=>uU x.1⟩
noncomputable def Lg:Cx:=⟨tpr,[(20,dH),(94,eV)],[]⟩
theorem Lv:FB 39 Dw:=fbk Lg I9 none (by intro x;kernel_rfl) (cz dS (cz fZ (.nil _))) Tryz.func39
def B2:ay:=⟨[.val tI,.val tI,.val (.ptr (.slice aU))],[.val tI],fun x=>pq x.1 x.2.1 x.2.2.1⟩
noncomputable def Rk:Cx:=⟨tpr,[],[]⟩
theorem Hj:FB 42 B2:=fbk Rk [] none (by intro x;kernel_rfl) (.nil _) Tryz.func42
def yR:List (Nat×Ann):=[(1,⟨[(0,.rowR 10250000),(1,.val tI),(2,.val tI),(3,.val (.clo 42 (.ptr (.slice aU)))),(8,.val tI)],[],[.rowC 10250000 3 tI],aV _⟩),
 (4,⟨[(0,.rowR 10250000),(1,.val tI),(2,.val tI),(3,.val (.clo 42 (.ptr (.slice aU)))),(8,.val tI),(9,.val tI)],[],[.rowC 10250000 3 tI],aV _⟩),
 (200001,⟨[],[],[.rowC 10250000 3 tI],fun _=>0⟩),
 (200004,⟨[(0,.rowR 10250000),(1,.val tI),(2,.val tI),(3,.val (.clo 42 (.ptr (.slice aU)))),(8,.val tI)],[],[.rowC 10250000 3 tI],fun _=>0⟩)]
def pM:ay:=⟨[.mrow 3 tI,.val tI,.val tI,.val (.clo 42 (.ptr (.slice aU)))],[],fun x=>fI x.1 x.2.1 x.2.2.1 x.2.2.2.1⟩
noncomputable def AF:Cx:=⟨tpr,[(42,B2)],[]⟩
theorem AJ:FB 152 pM:=fbk AF yR none (by intro x;kernel_rfl) (cz Hj (.nil _)) Tryz.func152
end Go.Proofs.SeatU
set_option maxRecDepth 100000
namespace Go.Proofs.SeatU
open Go.Dn Go.Md Go.Proofs
def BI:List (Nat×Ann):=[(1,⟨[(0,.rowR 10250000),(1,.val tI),(2,.val tI),(3,.val tI),(10,.val tI)],[],[.rowC 10250000 3 tI],aV _⟩),
 (200001,⟨[],[],[.rowC 10250000 3 tI],fun _=>0⟩)]
def tX:ay:=⟨[.mrow 3 tI,.val tI,.val tI,.val tI,.val (.clo 42 (.ptr (.slice aU)))],[],fun x=>fq x.1 x.2.1 x.2.2.1 x.2.2.2.1 x.2.2.2.2.1⟩
noncomputable def CW:Cx:=⟨tpr,[],[]⟩
theorem C4:FB 240 tX:=fbk CW BI none (by intro x;kernel_rfl) (.nil _) Tryz.func240
def DD:List (Nat×Ann):=[(2,⟨[(0,.rowR 10250000),(2,.val tI),(4,.val (.clo 42 (.ptr (.slice aU)))),(10,.val tI),(11,.val tI)],[],[.rowC 10250000 3 tI],aV _⟩),
 (200002,⟨[(0,.rowR 10250000),(2,.val tI),(4,.val (.clo 42 (.ptr (.slice aU)))),(10,.val tI)],[],[.rowC 10250000 3 tI],fun _=>0⟩)]
def vO:ay:=⟨[.mrow 3 tI,.val tI,.val tI,.val tI,.val (.clo 42 (.ptr (.slice aU)))],[],fun x=>mL x.1 x.2.1 x.2.2.1 x.2.2.2.1 x.2.2.2.2.1⟩
noncomputable def EY:Cx:=⟨tpr,[(240,tX)],[]⟩
theorem E5:FB 199 vO:=fbk EY DD none (by intro x;kernel_rfl) (cz C4 (.nil _)) Tryz.func199
def rV:List (Nat×Ann):=[(3,⟨[(0,.rowR 10250000),(1,.val tI),(4,.val (.clo 42 (.ptr (.slice aU)))),(10,.val tI),(11,.val tI)],[],[.rowC 10250000 3 tI],aV _⟩),
 (9,⟨[(0,.rowR 10250000),(10,.val tI),(13,.val tI)],[],[.rowC 10250000 3 tI],aV _⟩),
 (15,⟨[(0,.rowR 10250000),(2,.val tI),(4,.val (.clo 42 (.ptr (.slice aU)))),(14,.val tI),(15,.val tI)],[],[.rowC 10250000 3 tI],aV _⟩),
 (21,⟨[(0,.rowR 10250000),(14,.val tI),(17,.val tI)],[],[.rowC 10250000 3 tI],aV _⟩),
 (33,⟨[(0,.rowR 10250000),(1,.val tI),(2,.val tI),(3,.val tI),(4,.val (.clo 42 (.ptr (.slice aU)))),(18,.val tI),(19,.val tI),(20,.val tI),(21,.val tI),(22,.val tI)],[],[.rowC 10250000 3 tI],aV _⟩),
 (100030,⟨[(0,.rowR 10250000),(1,.val tI),(2,.val tI),(3,.val tI),(4,.val (.clo 42 (.ptr (.slice aU)))),(18,.val tI),(19,.val tI),(20,.val tI),(21,.val tI)],[],[.rowC 10250000 3 tI],fun _=>0⟩),
 (100040,⟨[(0,.rowR 10250000),(1,.val tI),(3,.val tI),(4,.val (.clo 42 (.ptr (.slice aU)))),(18,.val tI),(20,.val tI),(24,.val tI)],[],[.rowC 10250000 3 tI],fun _=>0⟩),
 (100042,⟨[(0,.rowR 10250000),(3,.val tI),(4,.val (.clo 42 (.ptr (.slice aU)))),(18,.val tI),(24,.val tI)],[],[.rowC 10250000 3 tI],fun _=>0⟩),
 (200003,⟨[(0,.rowR 10250000),(1,.val tI),(10,.val tI)],[],[.rowC 10250000 3 tI],fun _=>0⟩),
 (200009,⟨[],[],[.rowC 10250000 3 tI],fun _=>0⟩),
 (200015,⟨[(0,.rowR 10250000),(2,.val tI),(14,.val tI)],[],[.rowC 10250000 3 tI],fun _=>0⟩),
 (200021,⟨[],[],[.rowC 10250000 3 tI],fun _=>0⟩),
 (200033,⟨[(0,.rowR 10250000),(1,.val tI),(2,.val tI),(3,.val tI),(4,.val (.clo 42 (.ptr (.slice aU)))),(18,.val tI),(19,.val tI),(20,.val tI)],[],[.rowC 10250000 3 tI],fun _=>0⟩)]
def cL:List PM:=[.mrow 3 tI,.val tI,.val tI,.val tI,.val (.clo 42 (.ptr (.slice aU)))]
def eE:List RM:=[]
noncomputable def sO:List (Nat×ay):=[(42,B2),(199,vO)]
def uK:ay:=⟨cL,eE,fun x=>iq x.1 x.2.1 x.2.2.1 x.2.2.2.1 x.2.2.2.2.1⟩
theorem CX:∀ (self:eL cL->Option (dc cL eE)) (x:eL cL),NX ⟨tpr,(153,⟨cL,eE,self⟩)::sO,[]⟩ rV none Tryz.f153 ⟨cL,eE,fun x=>dF self x.1 x.2.1 x.2.2.1 x.2.2.2.1 x.2.2.2.2.1⟩ x=dF self x.1 x.2.1 x.2.2.1 x.2.2.2.1 x.2.2.2.2.1:=by intro self x;kernel_rfl
theorem uG:fm tpr 153:=iG Tryz.func153 rfl (by decide)
theorem DM:gU tpr 153 uK:=QA (ps:=cL) (rs:=eE) (m:=fun n x=>zx (fun self x=>dF self x.1 x.2.1 x.2.2.1 x.2.2.2.1 x.2.2.2.2.1) n x) (LG (P:=Tryz.prog) (specs:=sO) (ps:=cL) (rs:=eE) (cz Hj (cz E5 (.nil _))) (by kernel_rfl) (fun self x=>dF self x.1 x.2.1 x.2.2.1 x.2.2.2.1 x.2.2.2.2.1) rV none (by kernel_rfl) uG CX) (fun x=>l7 x.1 x.2.1 x.2.2.1 x.2.2.2.1 x.2.2.2.2.1)
def DE:List (Nat×Ann):=[(2,⟨[(0,.rowR 10250000),(1,.val tI),(2,.val (.clo 42 (.ptr (.slice aU)))),(6,.val tI),(7,.val tI),(8,.val tI)],[],[.rowC 10250000 3 tI],aV _⟩),
 (7,⟨[(0,.rowR 10250000),(1,.val tI),(2,.val (.clo 42 (.ptr (.slice aU)))),(6,.val tI)],[],[.rowC 10250000 3 tI],aV _⟩),
 (9,⟨[(0,.rowR 10250000),(1,.val tI),(2,.val (.clo 42 (.ptr (.slice aU)))),(6,.val tI),(7,.val tI),(8,.val tI)],[],[.rowC 10250000 3 tI],aV _⟩),
 (200002,⟨[(0,.rowR 10250000),(1,.val tI),(2,.val (.clo 42 (.ptr (.slice aU)))),(6,.val tI),(7,.val tI)],[],[.rowC 10250000 3 tI],fun _=>0⟩),
 (200007,⟨[],[],[.rowC 10250000 3 tI],fun _=>0⟩),
 (200009,⟨[(0,.rowR 10250000),(1,.val tI),(2,.val (.clo 42 (.ptr (.slice aU)))),(6,.val tI),(7,.val tI)],[],[.rowC 10250000 3 tI],fun _=>0⟩)]
def vP:ay:=⟨[.mrow 3 tI,.val tI,.val (.clo 42 (.ptr (.slice aU)))],[],fun x=>qY x.1 x.2.1 x.2.2.1⟩
noncomputable def EZ:Cx:=⟨tpr,[(152,pM),(153,uK)],[]⟩
theorem E6:FB 95 vP:=fbk EZ DE none (by intro x;kernel_rfl) (cz AJ (.cons DM uG (.nil _))) Tryz.func95
def vB:ay:=⟨[.mrow 3 tI,.val (.clo 42 (.ptr (.slice aU)))],[],fun x=>lX x.1 x.2.1⟩
noncomputable def D9:Cx:=⟨tpr,[(95,vP)],[]⟩
theorem Ed:FB 41 vB:=fbk D9 [] none (by intro x;kernel_rfl) (cz E6 (.nil _)) Tryz.func41
def Q3:List (Nat×Ann):=[(10,⟨[(0,.val (.slice aY)),(3,.ref 3 0),(9,.own 3 tI),(10,.rowR 43),(44,.val (.slice aU)),(45,.val tI),(46,.val tI)],[(3,GV)],[.rowC 43 125 aA],aV _⟩),
 (18,⟨[(3,.ref 3 0),(9,.val (.slice tI)),(10,.rowR 43),(13,.own 88 aY),(65,.val (.slice aY)),(66,.val tI),(67,.val tI)],[(3,GV)],[.rowC 43 125 aA],aV _⟩),
 (22,⟨[(3,.ref 3 0),(9,.val (.slice tI)),(10,.rowR 43),(13,.own 88 aY),(15,.ref 15 0),(16,.ref 16 0),(65,.val (.slice aY)),(66,.val tI),(67,.val tI),(74,.val (.slice tI)),(75,.val tI),(76,.val tI)],[(3,GV),(15,XH),(16,Sq)],[.rowC 43 125 aA],aV _⟩),
 (38,⟨[(10,.rowR 43),(13,.own 88 aY),(22,.own 55 qw),(144,.val (.slice aU)),(145,.val tI),(146,.val tI)],[],[.rowC 43 125 aA],aV _⟩),
 (100027,⟨[(3,.ref 3 0),(9,.val (.slice tI)),(10,.rowR 43),(13,.own 88 aY),(15,.ref 15 0),(16,.ref 16 0),(18,.val tI),(19,.ref 19 0),(65,.val (.slice aY)),(66,.val tI),(67,.val tI),(74,.val (.slice tI)),(75,.val tI),(76,.val tI)],[(3,GV),(15,XH),(16,Sq),(19,Sq)],[.rowC 43 125 aA],fun _=>0⟩),
 (200010,⟨[(0,.val (.slice aY)),(3,.ref 3 0),(9,.own 3 tI),(10,.rowR 43)],[(3,GV)],[.rowC 43 125 aA],fun _=>0⟩),
 (200018,⟨[(3,.ref 3 0),(10,.rowR 43),(13,.own 88 aY)],[(3,GV)],[.rowC 43 125 aA],fun _=>0⟩),
 (200022,⟨[(3,.ref 3 0),(9,.val (.slice tI)),(10,.rowR 43),(13,.own 88 aY),(15,.ref 15 0),(16,.ref 16 0),(65,.val (.slice aY)),(66,.val tI),(67,.val tI)],[(3,GV),(15,XH),(16,Sq)],[.rowC 43 125 aA],fun _=>0⟩),
 (200038,⟨[(13,.own 88 aY),(22,.own 55 qw)],[],[],fun _=>0⟩)]
def KI:ay:=⟨[.val (.slice aY),.val (.slice aU)],[.val (.slice qw),.val (.slice aY),.val tI],fun x=>xJ x.1 x.2.1⟩
noncomputable def Ux:Cx:=⟨tpr,[(38,Dv),(39,Dw),(40,mM),(41,vB),(43,qv),(44,uV),(45,jR),(46,Es)],[]⟩
theorem UM:FB 12 KI:=fbk Ux Q3 none (by intro x;kernel_rfl) (cz Lu (cz Lv (cz oF (cz Ed (cz wo (cz AK (cz mQ (cz Kl (.nil _))))))))) Tryz.func12
def Fq:ay:=⟨[.val bJ,.val (.slice bh)],[.row 258 aC,.val tI],fun x=>oH x.1 x.2.1⟩
noncomputable def NL:Cx:=⟨tpr,[(35,BC),(35,EO)],[]⟩
theorem N9:FB 13 Fq:=fbk NL [] (some bP) (by intro x;kernel_rfl) (cz FM (cz Jn (.nil _))) Tryz.func13
def IQ:ay:=⟨[.val .hnd,.arR bP],[.val .bool],fun x=>HF x.1 x.2.1⟩
noncomputable def SC:Cx:=⟨tpr,[(49,tV)],[]⟩
theorem SU:FB 48 IQ:=fbk SC [] none (by intro x;kernel_rfl) (cz yW (.nil _)) Tryz.func48
def AR:List (Nat×Ann):=[(2,⟨[(0,.val (.slice .hnd)),(1,.val (.clo 48 .unit)),(7,.val tI),(8,.val tI)],[],[.arF bP],aV _⟩),
 (200002,⟨[],[],[.arF bP],fun _=>0⟩)]
def rX:ay:=⟨[.val (.slice .hnd),.val (.clo 48 .unit),.arR bP],[.val tI],fun x=>nS x.1 x.2.1 x.2.2.1⟩
noncomputable def CD:Cx:=⟨tpr,[(48,IQ)],[]⟩
theorem CF:FB 97 rX:=fbk CD AR none (by intro x;kernel_rfl) (cz SU (.nil _)) Tryz.func97
def pL:ay:=⟨[.val (.slice .hnd),.val (.clo 48 .unit),.arR bP],[.val .bool],fun x=>l6 x.1 x.2.1 x.2.2.1⟩
noncomputable def AE:Cx:=⟨tpr,[(97,rX)],[]⟩
theorem AI:FB 47 pL:=fbk AE [] none (by intro x;kernel_rfl) (cz CF (.nil _)) Tryz.func47
def MI:ay:=⟨[.val bJ,.val (.slice bh),.val tI],[.val .bool,.val tI],fun x=>Aj x.1 x.2.1 x.2.2.1⟩
noncomputable def Wz:Cx:=⟨tpr,[(35,BC),(35,EO),(36,q7),(47,pL)],[]⟩
theorem WJ:FB 14 MI:=fbk Wz [] (some bP) (by intro x;kernel_rfl) (cz FM (cz Jn (cz yV (cz AI (.nil _))))) Tryz.func14
def IL:ay:=⟨[.val tI],[.val .bool],fun x=>GN x.1⟩
noncomputable def Sv:Cx:=⟨tpr,[(20,dH)],[]⟩
theorem SQ:FB 53 IL:=fbk Sv [] none (by intro x;kernel_rfl) (cz dS (.nil _)) Tryz.func53
def Se:List (Nat×Ann):=[(3,⟨[(3,.val tI),(4,.val tI),(5,.val tI)],[],[],aV _⟩),
 (200003,⟨[(3,.val tI)],[],[],fun _=>0⟩)]
def MG:ay:=⟨[.val tI],[.val tI],fun x=>Gi x.1⟩
noncomputable def Ww:Cx:=⟨tpr,[],[]⟩
theorem WH:FB 155 MG:=fbk Ww Se none (by intro x;kernel_rfl) (.nil _) Tryz.func155
def yH:ay:=⟨[.val aC,.val tI],[.val .bool],fun x=>gJ x.1 x.2.1⟩
noncomputable def Sz:Cx:=⟨tpr,[(20,dH),(155,MG)],[]⟩
theorem CZ:FB 100 yH:=fbk Sz [] none (by intro x;kernel_rfl) (cz dS (cz WH (.nil _))) Tryz.func100
def KZ:List (Nat×Ann):=[(6,⟨[(0,.val (.slice gW)),(12,.val (.slice gW)),(13,.val tI),(14,.val tI)],[],[],aV _⟩),
 (200006,⟨[],[],[],fun _=>0⟩)]
def Fp:ay:=⟨[.val (.slice gW)],[.val tI],fun x=>oD x.1⟩
noncomputable def NK:Cx:=⟨tpr,[(18,gI),(94,eV),(100,yH)],[]⟩
theorem N8:FB 54 Fp:=fbk NK KZ none (by intro x;kernel_rfl) (cz ic (cz fZ (cz CZ (.nil _)))) Tryz.func54
def HS:ay:=⟨[.val gW,.val .str],[.val tI],fun x=>FH x.1 x.2.1⟩
noncomputable def Rh:Cx:=⟨tpr,[(81,lT)],[]⟩
theorem Rr:FB 201 HS:=fbk Rh [] none (by intro x;kernel_rfl) (.cons sX sQ (.nil _)) Tryz.func201
def uh:List (Nat×Ann):=[(3,⟨[(0,.val (.slice gW)),(1,.val .str),(2,.val (.clo 201 .unit)),(8,.val tI),(9,.val tI),(10,.val tI)],[],[],aV _⟩),
 (200003,⟨[(0,.val (.slice gW)),(1,.val .str),(2,.val (.clo 201 .unit)),(8,.val tI),(9,.val tI)],[],[],fun _=>0⟩)]
def lS:ay:=⟨[.val (.slice gW),.val .str,.val (.clo 201 .unit)],[.val tI,.val .bool],fun x=>eZ x.1 x.2.1 x.2.2.1⟩
noncomputable def u9:Cx:=⟨tpr,[(201,HS)],[]⟩
theorem vg:FB 200 lS:=fbk u9 uh none (by intro x;kernel_rfl) (cz Rr (.nil _)) Tryz.func200
def KG:ay:=⟨[.val (.slice gW),.val .str],[.val tI,.val .bool],fun x=>EF x.1 x.2.1⟩
noncomputable def Us:Cx:=⟨tpr,[(200,lS)],[]⟩
theorem UK:FB 156 KG:=fbk Us [] none (by intro x;kernel_rfl) (cz vg (.nil _)) Tryz.func156
def Dr:ay:=⟨[.val bB,.val .str],[.val .bool],fun x=>kI x.1 x.2.1⟩
noncomputable def SA:Cx:=⟨tpr,[(156,KG)],[]⟩
theorem Iu:FB 101 Dr:=fbk SA [] none (by intro x;kernel_rfl) (cz UK (.nil _)) Tryz.func101
def JO:List (Nat×Ann):=[(4,⟨[(2,.val .bool),(3,.ref 3 0),(13,.val (.slice qD)),(14,.val tI),(15,.val tI)],[(3,AU)],[],aV _⟩),
 (100012,⟨[(2,.val .bool),(3,.ref 3 0),(8,.ref 8 0),(13,.val (.slice qD)),(14,.val tI),(15,.val tI),(30,.val .bool)],[(3,AU),(8,[.val .bool,.val tI,.val tI,.val .str])],[],fun _=>0⟩),
 (200004,⟨[],[],[],fun _=>0⟩)]
def ya:ay:=⟨[.val bB,.val (.slice qD),.val .bool],[.val tI],fun x=>kZ x.1 x.2.1 x.2.2.1⟩
noncomputable def MT:Cx:=⟨tpr,[(94,eV),(100,yH),(101,Dr)],[]⟩
theorem DP:FB 56 ya:=fbk MT JO none (by intro x;kernel_rfl) (cz fZ (cz CZ (cz Iu (.nil _)))) Tryz.func56
end Go.Proofs.SeatU
set_option maxRecDepth 100000
namespace Go.Proofs.SeatU
open Go.Dn Go.Md Go.Proofs
def F5:ay:=⟨[.val bB,.val tI],[.val tI],fun x=>u5 x.1 x.2.1⟩
noncomputable def PY:Cx:=⟨tpr,[(18,gI),(20,dH),(56,ya),(61,rU),(94,eV),(100,yH),(101,Dr)],[]⟩
theorem Qd:FB 55 F5:=fbk PY [] none (by intro x;kernel_rfl) (cz ic (cz dS (cz DP (cz xR (cz fZ (cz CZ (cz Iu (.nil _)))))))) Tryz.func55
def I4:List (Nat×Ann):=[(15,⟨[(1,.ref 1 0),(48,.val tI),(49,.val tI)],[(1,AU)],[],aV _⟩),
 (200015,⟨[(1,.ref 1 0)],[(1,AU)],[],fun _=>0⟩)]
def mN:ay:=⟨[.val bB],[.val tI],fun x=>iE x.1⟩
noncomputable def K9:Cx:=⟨tpr,[(18,gI),(19,ou),(20,dH),(53,IL),(54,Fp),(55,F5),(56,ya)],[]⟩
theorem pV:FB 16 mN:=fbk K9 I4 none (by intro x;kernel_rfl) (cz ic (cz qL (cz dS (cz SQ (cz N8 (cz Qd (cz DP (.nil _)))))))) Tryz.func16
def zI:ay:=⟨[.val (.slice gW)],[.row 141 gW],fun x=>oZ x.1⟩
noncomputable def G7:Cx:=⟨tpr,[],[]⟩
theorem Hq:FB 50 zI:=fbk G7 [] none (by intro x;kernel_rfl) (.nil _) Tryz.func50
def HR:ay:=⟨[.val aU],[.val aA],fun x=>EU x.1⟩
noncomputable def XL:Cx:=⟨tpr,[(40,mM),(44,uV)],[]⟩
theorem N7:FB 51 HR:=fbk XL [] none (by intro x;kernel_rfl) (cz oF (cz AK (.nil _))) Tryz.func51
def QX:List (Nat×Ann):=[(14,⟨[(7,.ref 7 0),(8,.ref 8 0),(14,.ref 14 0),(62,.val (.slice aU)),(63,.val tI),(64,.val tI)],[(7,AU),(8,abS),(14,abT)],[.rowC 60 141 gW],aV _⟩),
 (200014,⟨[(8,.ref 8 0),(14,.ref 14 0)],[(8,abS),(14,abT)],[.rowC 60 141 gW],fun _=>0⟩)]
def KF:ay:=⟨[.val bJ,.val (.slice bh),.val .str,.val bB],[.val bB,.val tI],fun x=>AS x.1 x.2.1 x.2.2.1 x.2.2.2.1⟩
noncomputable def Ur:Cx:=⟨tpr,[(4,kE),(11,wO),(16,mN),(18,gI),(45,jR),(50,zI),(51,HR),(52,qZ)],[]⟩
theorem UJ:FB 15 KF:=fbk Ur QX none (by intro x;kernel_rfl) (cz nx (cz BL (cz pV (cz ic (cz mQ (cz Hq (cz N7 (cz wm (.nil _))))))))) Tryz.func15
def uC:ay:=⟨[.val aC],[.val tI],fun x=>nw x.1⟩
noncomputable def Jd:Cx:=⟨tpr,[(20,dH)],[]⟩
theorem AX:FB 103 uC:=fbk Jd [] none (by intro x;kernel_rfl) (cz dS (.nil _)) Tryz.func103
def MP:List (Nat×Ann):=[(13,⟨[(1,.val (.slice bh)),(3,.val (.slice bB)),(4,.ref 4 0),(6,.ref 6 0),(34,.val (.slice bB)),(35,.val tI),(36,.val tI)],[(4,EW),(6,Ce)],[],aV _⟩),
 (200013,⟨[(1,.val (.slice bh)),(3,.val (.slice bB)),(4,.ref 4 0),(6,.ref 6 0)],[(4,EW),(6,Ce)],[],fun _=>0⟩),
 (300018,⟨[(58,.val .bool)],[],[],fun _=>0⟩)]
def F6:ay:=⟨[.val bJ,.val (.slice bh),.val aC,.val (.slice bB)],[.box [.val bJ,.val (.slice bh),.val aC,.val (.slice bB),.map tI (.slice aU),.map tI aA,.row 214 ng],.val tI],fun x=>z8 x.1 x.2.1 x.2.2.1 x.2.2.2.1⟩
noncomputable def PZ:Cx:=⟨tpr,[(4,kE),(16,mN),(102,rT),(103,uC)],[]⟩
theorem Qe:FB 57 F6:=fbk PZ MP none (by intro x;kernel_rfl) (cz nx (cz pV (cz xQ (cz AX (.nil _))))) Tryz.func57
def JP:List (Nat×Ann):=[(13,⟨[(1,.val (.slice bh)),(3,.val (.slice bB)),(4,.ref 4 0),(6,.ref 6 0),(34,.val (.slice bB)),(35,.val tI),(36,.val tI)],[(4,EW),(6,Ce)],[],aV _⟩),
 (200013,⟨[(1,.val (.slice bh)),(3,.val (.slice bB)),(4,.ref 4 0),(6,.ref 6 0)],[(4,EW),(6,Ce)],[],fun _=>0⟩),
 (300018,⟨[(58,.val .bool)],[],[],fun _=>0⟩)]
def DT:ay:=⟨[.val bJ,.val (.slice bh),.val aC,.val (.slice bB)],[.val .hnd,.val tI],fun x=>wh x.1 x.2.1 x.2.2.1 x.2.2.2.1⟩
noncomputable def MU:Cx:=⟨tpr,[(4,kE),(16,mN),(102,rT),(103,uC)],[]⟩
theorem M7:FB 57 DT:=fbk MU JP none (by intro x;kernel_rfl) (cz nx (cz pV (cz xQ (cz AX (.nil _))))) Tryz.func57
def lY:ay:=⟨[.val tI,.val tI,.box [.val bJ,.val (.slice bh),.val aC,.val (.slice bB),.map tI (.slice aU),.map tI aA,.row 214 ng],.box [.val tI]],[],fun x=>iA x.1 x.2.1 x.2.2.1 x.2.2.2.1⟩
noncomputable def yq:Cx:=⟨tpr,[],[]⟩
theorem FK:∀ x,adC yq [] Tryz.f104 lY 2 x=lY.m x:=by intro x;kernel_rfl
noncomputable def ZY:BH:= .nest 2 lY
theorem ae2:fm tpr 104:=iG Tryz.func104 rfl (by decide)
theorem ae4:Ge Tryz.prog 104 ZY:=afd (X:=yq) (.nil _) (by kernel_rfl) lY 2 [] (by kernel_rfl) (fun x y h=>(FK x).trans h)
def yI:ay:=⟨[.val bB,.val (.ptr bB)],[.val .bool],fun x=>uk x.1 x.2.1⟩
noncomputable def Gl:Cx:=⟨tpr,[],[]⟩
theorem Gp:FB 106 yI:=fbk Gl [] none (by intro x;kernel_rfl) (.nil _) Tryz.func106
def AQ:List (Nat×Ann):=[(2,⟨[(0,.val (.slice bB)),(1,.val (.clo 106 (.ptr bB))),(7,.val tI),(8,.val tI)],[],[],aV _⟩),
 (200002,⟨[],[],[],fun _=>0⟩)]
def rW:ay:=⟨[.val (.slice bB),.val (.clo 106 (.ptr bB))],[.val tI],fun x=>nR x.1 x.2.1⟩
noncomputable def CC:Cx:=⟨tpr,[(106,yI)],[]⟩
theorem CE:FB 159 rW:=fbk CC AQ none (by intro x;kernel_rfl) (cz Gp (.nil _)) Tryz.func159
def pK:ay:=⟨[.val (.slice bB),.val (.clo 106 (.ptr bB))],[.val .bool],fun x=>ir x.1 x.2.1⟩
noncomputable def AD:Cx:=⟨tpr,[(159,rW)],[]⟩
theorem AH:FB 105 pK:=fbk AD [] none (by intro x;kernel_rfl) (cz CE (.nil _)) Tryz.func105
def zB:ay:=⟨[.box [.val bJ,.val (.slice bh),.val aC,.val (.slice bB),.map tI (.slice aU),.map tI aA,.row 214 ng],.val tI],[.val (.slice aU)],fun x=>oC x.1 x.2.1⟩
noncomputable def GW:Cx:=⟨tpr,[(11,wO)],[]⟩
theorem Hg:FB 160 zB:=fbk GW [] none (by intro x;kernel_rfl) (cz BL (.nil _)) Tryz.func160
def Bd:ay:=⟨[.val aU,.val (.ptr jM)],[.val .bool],fun x=>xP x.1 x.2.1⟩
noncomputable def Je:Cx:=⟨tpr,[],[]⟩
theorem Jm:FB 162 Bd:=fbk Je [] none (by intro x;kernel_rfl) (.nil _) Tryz.func162
def CA:List (Nat×Ann):=[(2,⟨[(0,.val (.slice aU)),(1,.val (.clo 162 (.ptr jM))),(7,.val tI),(8,.val tI)],[],[],aV _⟩),
 (200002,⟨[],[],[],fun _=>0⟩)]
def uJ:ay:=⟨[.val (.slice aU),.val (.clo 162 (.ptr jM))],[.val tI],fun x=>kU x.1 x.2.1⟩
noncomputable def DH:Cx:=⟨tpr,[(162,Bd)],[]⟩
theorem DL:FB 161 uJ:=fbk DH CA none (by intro x;kernel_rfl) (cz Jm (.nil _)) Tryz.func161
def OY:ay:=⟨[.val aA,.val tI],[.val aA],fun x=>EV x.1 x.2.1⟩
noncomputable def XM:Cx:=⟨tpr,[(75,kS),(119,lU)],[]⟩
theorem XY:FB 163 OY:=fbk XM [] none (by intro x;kernel_rfl) (cz l8 (cz oa (.nil _))) Tryz.func163
def Ds:ay:=⟨[.box [.val bJ,.val (.slice bh),.val aC,.val (.slice bB),.map tI (.slice aU),.map tI aA,.row 214 ng],.val tI,.val jM],[.val tI],fun x=>uP x.1 x.2.1 x.2.2.1⟩
noncomputable def La:Cx:=⟨tpr,[(40,mM),(43,qv),(45,jR),(51,HR),(75,kS),(78,mW),(119,lU),(160,zB),(161,uJ),(163,OY)],[]⟩
theorem Ls:FB 107 Ds:=fbk La [] none (by intro x;kernel_rfl) (cz oF (cz wo (cz mQ (cz N7 (cz l8 (cz pE (cz oa (cz Hg (cz DL (cz XY (.nil _))))))))))) Tryz.func107
def Gf:List (Nat×Ann):=[(8,⟨[(2,.ref 2 0),(4,.ref 4 0),(5,.fn 104 [2,3]),(40,.val (.slice jM)),(41,.val tI),(42,.val tI)],[(2,[.ref 2000 0]),(3,[.val tI]),(4,AU),(2000,Ss)],[],aV _⟩),
 (200008,⟨[],[(2000,Ss)],[],fun _=>0⟩)]
def Ay:ay:=⟨[.box [.val bJ,.val (.slice bh),.val aC,.val (.slice bB),.map tI (.slice aU),.map tI aA,.row 214 ng],.val tI],[],fun x=>mm x.1 x.2.1⟩
noncomputable def Ih:Cx:=⟨tpr,[(40,mM),(78,mW),(105,pK),(107,Ds)],[(104,ZY)]⟩
theorem Ik:FB 58 Ay:=fbk Ih Gf none (by intro x;kernel_rfl) (.Su ae4 ae2 (cz oF (cz pE (cz AH (cz Ls (.nil _)))))) Tryz.func58
def Sd:List (Nat×Ann):=[(5,⟨[(10,.ref 18 0),(25,.val tI),(26,.val tI)],[(18,Ss)],[],aV _⟩),
 (200005,⟨[(10,.ref 18 0)],[(18,Ss)],[],fun _=>0⟩)]
def MF:ay:=⟨[.val bJ,.val (.slice bh),.val aC,.val (.slice bB)],[.val (.slice ng),.val tI],fun x=>z7 x.1 x.2.1 x.2.2.1 x.2.2.2.1⟩
noncomputable def Wv:Cx:=⟨tpr,[(57,DT),(57,F6),(58,Ay)],[]⟩
theorem WG:FB 17 MF:=fbk Wv Sd none (by intro x;kernel_rfl) (cz M7 (cz Qe (cz Ik (.nil _)))) Tryz.func17
def CB:List (Nat×Ann):=[(18,⟨[(5,.ref 5 0),(9,.ref 9 0),(16,.val (.slice qw)),(18,.own 57 bh),(105,.val (.slice qw)),(106,.val tI),(107,.val tI)],[(5,EW),(9,AU)],[],aV _⟩),
 (23,⟨[(5,.ref 5 0),(9,.ref 9 0),(16,.val (.slice qw)),(18,.own 57 bh),(125,.val (.slice qw)),(126,.val tI),(127,.val tI)],[(5,EW),(9,AU)],[],aV _⟩),
 (200018,⟨[(5,.ref 5 0),(9,.ref 9 0),(16,.val (.slice qw)),(18,.own 57 bh)],[(5,EW),(9,AU)],[],fun _=>0⟩),
 (200023,⟨[(5,.ref 5 0),(9,.ref 9 0),(16,.val (.slice qw)),(18,.own 57 bh)],[(5,EW),(9,AU)],[],fun _=>0⟩),
 (300005,⟨[(10,.val .bool)],[],[],fun _=>0⟩),
 (300042,⟨[(10,.val .bool)],[],[],fun _=>0⟩)]
def uN:ay:=⟨[.val bJ,.val (.slice aY),.val .str,.val tI,.val bB],[.val .bool],fun x=>kV x.1 x.2.1 x.2.2.1 x.2.2.2.1 x.2.2.2.2.1⟩
noncomputable def DI:Cx:=⟨tpr,[(4,kE),(5,IV),(6,OZ),(7,KJ),(8,KK),(9,Fw),(10,MK),(11,wO),(12,KI),(13,Fq),(14,MI),(15,KF),(16,mN),(17,MF)],[]⟩
theorem CY:aaw DI CB none Tryz.f3 uN:=by intro x;kernel_rfl
theorem DN:gU tpr 3 uN:=NY CY (cz nx (cz S3 (cz XZ (cz UN (cz UO (cz Od (cz WL (cz BL (cz UM (cz N9 (cz WJ (cz UJ (cz pV (cz WG (.nil _))))))))))))))) acE Tryz.func3
end Go.Proofs.SeatU
end
