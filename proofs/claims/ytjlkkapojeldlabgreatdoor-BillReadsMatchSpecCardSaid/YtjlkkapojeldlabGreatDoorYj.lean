/-
  Each function that the law reaches is as its plain model says, a further part. No condition.
-/
import Derived.Test.YtjlkkapojeldlabGreatDoorYi
set_option maxRecDepth 100000
noncomputable section
namespace Go.Proofs.SeatU
open Go.Dn Go.Md Go.Proofs
def Kk:List CK:=[.val .bool,.own 181 (.int .u32)]
def Fi:List CK:=[.val .bool,.val (.slice (.int .u32))]
def Pg:List CK:=[.val tI,.val tI,.val tI,.val (.slice .str)]
def yB:ax:=⟨[.val .hnd,.val tI,.arR aE],[.val .bool],fun x=>vg x.1 x.2.1 x.2.2.1⟩
noncomputable def Ft:Cx:=⟨tpr,[],[]⟩
theorem FM:FB 90 yB:=fbk Ft [] none (by intro x;kernel_rfl) (.nil _) Tryz.func90
def uT:ax:=⟨[.val .hnd,.arR aE],[.val tI],fun x=>xW x.1 x.2.1⟩
noncomputable def Cm:Cx:=⟨tpr,[(119,tU)],[]⟩
theorem Cv:FB 135 uT:=fbk Cm [] none (by intro x;kernel_rfl) (cz yO (.nil _)) Tryz.func135
def ux:ax:=⟨[.val .hnd,.val tI,.val tI,.ar aE],[.val tI],fun x=>tD x.1 x.2.1 x.2.2.1 x.2.2.2.1⟩
noncomputable def Jh:Cx:=⟨tpr,[],[]⟩
theorem Ai:FB 92 ux:=fbk Jh [] none (by intro x;kernel_rfl) (.nil _) Tryz.func92
def yA:ax:=⟨[.val .hnd,.val tI,.val tI,.ar aE],[.val tI],fun x=>AY x.1 x.2.1 x.2.2.1 x.2.2.2.1⟩
noncomputable def Fs:Cx:=⟨tpr,[(92,ux),(135,uT)],[]⟩
theorem FL:FB 91 yA:=fbk Fs [] none (by intro x;kernel_rfl) (cz Ai (cz Cv (.nil _))) Tryz.func91
def EZ:List (Nat×Ann):=[(4,⟨[(1,.val (.slice cG)),(2,.val tI),(8,.own 111 .hnd),(9,.mapR 23),(24,.val (.slice ez)),(25,.val tI),(26,.val tI)],[],[.mapC 23 .str .hnd,.ar aE],aY _⟩),
 (14,⟨[(2,.val tI),(8,.own 111 .hnd),(9,.mapR 23),(13,.rowR 105744),(14,.own 3 tI),(49,.val (.slice cG)),(50,.val tI),(51,.val tI)],[],[.rowC 105744 111 .hnd,.mapC 23 .str .hnd,.ar aE],aY _⟩),
 (19,⟨[(2,.val tI),(8,.own 111 .hnd),(9,.mapR 23),(13,.rowR 105744),(14,.own 3 tI),(16,.ref 16 0),(17,.val tI),(49,.val (.slice cG)),(50,.val tI),(51,.val tI),(63,.val (.slice .str)),(64,.val tI),(65,.val tI)],[(16,Pg)],[.rowC 105744 111 .hnd,.mapC 23 .str .hnd,.ar aE],aY _⟩),
 (26,⟨[(2,.val tI),(8,.own 111 .hnd),(9,.mapR 23),(13,.rowR 105744),(14,.own 3 tI),(16,.ref 16 0),(17,.val tI),(49,.val (.slice cG)),(50,.val tI),(51,.val tI),(86,.rowR 105744),(87,.val tI),(88,.val tI)],[(16,Pg)],[.rowC 105744 111 .hnd,.mapC 23 .str .hnd,.ar aE],aY _⟩),
 (200004,⟨[(1,.val (.slice cG)),(2,.val tI),(8,.own 111 .hnd),(9,.mapR 23)],[],[.mapC 23 .str .hnd,.ar aE],fun _=>0⟩),
 (200014,⟨[(8,.own 111 .hnd),(14,.own 3 tI)],[],[.ar aE],fun _=>0⟩),
 (200019,⟨[(2,.val tI),(8,.own 111 .hnd),(9,.mapR 23),(13,.rowR 105744),(14,.own 3 tI),(16,.ref 16 0),(17,.val tI),(49,.val (.slice cG)),(50,.val tI),(51,.val tI)],[(16,Pg)],[.rowC 105744 111 .hnd,.mapC 23 .str .hnd,.ar aE],fun _=>0⟩),
 (200026,⟨[(2,.val tI),(8,.own 111 .hnd),(9,.mapR 23),(13,.rowR 105744),(14,.own 3 tI),(17,.val tI),(49,.val (.slice cG)),(50,.val tI),(51,.val tI)],[],[.rowC 105744 111 .hnd,.mapC 23 .str .hnd,.ar aE],fun _=>0⟩)]
def AF:ax:=⟨[.val (.slice ez),.val (.slice cG),.val tI,.ar aE],[.val (.slice .hnd),.val (.slice tI)],fun x=>Ej x.1 x.2.1 x.2.2.1 x.2.2.2.1⟩
noncomputable def Ji:Cx:=⟨tpr,[(85,EA),(86,pq),(87,jV),(90,yB),(91,yA),(92,ux)],[]⟩
theorem Js:FB 59 AF:=fbk Ji EZ none (by intro x;kernel_rfl) (cz Og (cz yP (cz rK (cz FM (cz FL (cz Ai (.nil _))))))) Tryz.func59
def HQ:List (Nat×Ann):=[(4,⟨[(2,.ref 2 0),(3,.ref 3 0),(4,.ref 4 0),(5,.ref 5 0),(6,.rowR 12),(7,.val (.slice (.int .u32))),(8,.val tI)],[(2,Fi),(3,Fi),(4,Kk),(5,Kk)],[.rowC 12 181 (.int .u32)],aY _⟩),
 (200004,⟨[(4,.ref 4 0),(5,.ref 5 0),(6,.rowR 12),(7,.val (.slice (.int .u32)))],[(4,Kk),(5,Kk)],[.rowC 12 181 (.int .u32)],fun _=>0⟩)]
def Bs:ax:=⟨[.val dx,.val dx],[.val dx,.val dx],fun x=>GX x.1 x.2.1⟩
noncomputable def Ks:Cx:=⟨tpr,[(141,lV),(144,oL),(194,GQ),(195,uz),(196,yZ)],[]⟩
theorem KH:FB 179 Bs:=fbk Ks HQ none (by intro x;kernel_rfl) (cz oY (cz uj (cz PA (cz Al (cz Ep (.nil _)))))) Tryz.func179
def EY:List (Nat×Ann):=[(2,⟨[(1,.val tI),(2,.ref 2 0),(4,.ref 4 0),(6,.ref 6 0)],[(2,Fi),(4,[.val tI,.val tI]),(6,Fi)],[],aY _⟩),
 (200002,⟨[(1,.val tI),(2,.ref 2 0),(4,.ref 4 0)],[(2,Fi),(4,[.val tI,.val tI])],[],fun _=>0⟩)]
def AE:ax:=⟨[.val dx,.val tI],[.val bg,.val tI],fun x=>Ei x.1 x.2.1⟩
noncomputable def Jg:Cx:=⟨tpr,[(97,xQ),(158,sM),(159,qW),(160,w8),(179,Bs)],[]⟩
theorem Jr:FB 136 AE:=fbk Jg EY none (by intro x;kernel_rfl) (cz BI (cz ze (cz ye (cz Ct (cz KH (.nil _)))))) Tryz.func136
def EB:ax:=⟨[.val tI],[.val bg,.val tI],fun x=>Kf x.1⟩
noncomputable def NX:Cx:=⟨tpr,[(97,xQ),(136,AE)],[]⟩
theorem Oh:FB 93 EB:=fbk NX [] none (by intro x;kernel_rfl) (cz BI (cz Jr (.nil _))) Tryz.func93
def zl:ax:=⟨[.val tI],[.val bg],fun x=>rG x.1⟩
noncomputable def H9:Cx:=⟨tpr,[(93,EB)],[]⟩
theorem Ii:FB 60 zl:=fbk H9 [] none (by intro x;kernel_rfl) (cz Oh (.nil _)) Tryz.func60
def NQ:List (Nat×Ann):=[(7,⟨[(9,.val (.slice tI)),(10,.own 68 vV),(28,.val (.slice .hnd)),(29,.val tI),(30,.val tI)],[],[.ar aE],aY _⟩),
 (13,⟨[(10,.own 68 vV),(13,.own 48 bg),(58,.val (.slice tI)),(59,.val tI),(60,.val tI)],[],[.ar aE],aY _⟩),
 (200007,⟨[(9,.val (.slice tI)),(10,.own 68 vV)],[],[.ar aE],fun _=>0⟩),
 (200013,⟨[(10,.own 68 vV),(13,.own 48 bg)],[],[.ar aE],fun _=>0⟩)]
def IJ:ax:=⟨[.val (.slice ez),.val (.slice cG)],[.val (.slice vV),.val (.slice bg),.val tI],fun x=>O6 x.1 x.2.1⟩
noncomputable def QL:Cx:=⟨tpr,[(58,zi),(59,AF),(60,zl)],[]⟩
theorem Q7:FB 19 IJ:=fbk QL NQ (some aE) (by intro x;kernel_rfl) (cz Ie (cz Js (cz Ii (.nil _)))) Tryz.func19
def GN:ax:=⟨[],[.val .bool],fun _=>Ga⟩
noncomputable def Pm:Cx:=⟨tpr,[(19,IJ)],[]⟩
theorem Px:FB 8 GN:=fbk Pm [] none (by intro x;kernel_rfl) (cz Q7 (.nil _)) Tryz.func8
end Go.Proofs.SeatU
end
