/-
  Each function that the law reaches is as its plain model says, a further part. No condition.
-/
import Derived.Test.YtfghdjdpccoleaaGreatDoorYw
set_option maxRecDepth 100000
noncomputable section
namespace Go.Proofs.SeatU
open Go.Dn Go.Md Go.Proofs
def wg:List CK:=[.val (.slice .str),.val .bool]
def tO:List CK:=[.val .bool,.val .bool,.val .bool,.val .bool,.val .bool,.val .bool]
def iU:List CK:=[.val tI,.val tI,.val tI,.val tI,.val tI,.val .str,.val tI,.val tI,.val .str,.val tI,.val tI,.val tI,.val tI]
def nN:an:=⟨[.box [.val (.slice .str),.val .bool]],[.val bG],fun x=>fV x.1⟩
noncomputable def vp:Cx:=⟨tpr,[(22,fX),(41,r0)],[]⟩
theorem vu:FB 23 nN:=fbk vp [] none (by intro x;kernel_rfl) (cz iE (cz zn (.nil _))) Tryz.func23
def yt:List (Nat×Ann):=[(100008,⟨[(2,.ref 2 0),(6,.ref 19 0),(7,.ref 7 0),(8,.ref 8 0)],[(2,iU),(7,iU),(8,tO),(19,wg)],[],fun _=>0⟩),
 (100010,⟨[(2,.ref 2 0),(6,.ref 19 0),(7,.ref 7 0),(8,.ref 8 0)],[(2,iU),(7,iU),(8,tO),(19,wg)],[],fun _=>0⟩),
 (100012,⟨[(2,.ref 2 0),(6,.ref 19 0),(7,.ref 7 0),(8,.ref 8 0)],[(2,iU),(7,iU),(8,tO),(19,wg)],[],fun _=>0⟩),
 (100014,⟨[(2,.ref 2 0),(6,.ref 19 0),(7,.ref 7 0),(8,.ref 8 0)],[(2,iU),(7,iU),(8,tO),(19,wg)],[],fun _=>0⟩),
 (100016,⟨[(2,.ref 2 0),(6,.ref 19 0),(7,.ref 7 0),(8,.ref 8 0)],[(2,iU),(7,iU),(8,tO),(19,wg)],[],fun _=>0⟩),
 (100018,⟨[(2,.ref 2 0),(6,.ref 19 0),(7,.ref 7 0)],[(2,iU),(7,iU),(19,wg)],[],fun _=>0⟩)]
def sQ:an:=⟨[.val .str],[.val bz,.val .bool],fun x=>bg x.1⟩
noncomputable def A2:Cx:=⟨tpr,[(16,Ai),(17,o3),(18,qb),(19,ux),(20,sj),(21,p9),(22,fX),(23,nN)],[]⟩
theorem A8:FB 9 sQ:=fbk A2 yt none (by intro x;kernel_rfl) (cz G8 (cz wC (cz xo (cz B7 (cz zw (cz uT (cz iE (cz vu (.nil _))))))))) Tryz.func9
def jQ:an:=⟨[.val tI,.val tI,.val tI],[.val .bool],fun x=>eg x.1 x.2.1 x.2.2.1⟩
noncomputable def Eb:Cx:=⟨tpr,[],[]⟩
theorem mN:FB 43 jQ:=fbk Eb [] none (by intro x;kernel_rfl) (.nil _) Tryz.func43
def uw:an:=⟨[.val tI],[.val .bool],fun x=>oU x.1⟩
noncomputable def GN:Cx:=⟨tpr,[(43,jQ)],[]⟩
theorem zo:FB 42 uw:=fbk GN [] none (by intro x;kernel_rfl) (cz mN (.nil _)) Tryz.func42
def si:an:=⟨[.val tI],[.val .bool],fun x=>lM x.1⟩
noncomputable def za:Cx:=⟨tpr,[],[]⟩
theorem zu:FB 44 si:=fbk za [] none (by intro x;kernel_rfl) (.nil _) Tryz.func44
def jn:an:=⟨[.val bG],[.val tI],fun x=>eH x.1⟩
noncomputable def vn:Cx:=⟨tpr,[(43,jQ)],[]⟩
theorem nA:FB 90 jn:=fbk vn [] none (by intro x;kernel_rfl) (cz mN (.nil _)) Tryz.func90
def BO:List (Nat×Ann):=[(3,⟨[(3,.val tI),(4,.val tI),(5,.val tI)],[],[],bA _⟩),
 (200003,⟨[(3,.val tI)],[],[],fun _=>0⟩)]
def wR:an:=⟨[.val tI],[.val tI],fun x=>vE x.1⟩
noncomputable def Ec:Cx:=⟨tpr,[],[]⟩
theorem En:FB 115 wR:=fbk Ec BO none (by intro x;kernel_rfl) (.nil _) Tryz.func115
def qa:an:=⟨[.val bG,.val tI,.val tI],[.val .bool],fun x=>jJ x.1 x.2.1 x.2.2.1⟩
noncomputable def CR:Cx:=⟨tpr,[(115,wR)],[]⟩
theorem uU:FB 91 qa:=fbk CR [] none (by intro x;kernel_rfl) (cz En (.nil _)) Tryz.func91
def nM:an:=⟨[.val bG,.val .bool],[.val tI],fun x=>iF x.1 x.2.1⟩
noncomputable def vo:Cx:=⟨tpr,[(90,jn),(91,qa)],[]⟩
theorem vr:FB 62 nM:=fbk vo [] none (by intro x;kernel_rfl) (cz nA (cz uU (.nil _))) Tryz.func62
def qp:an:=⟨[.val bG],[.val tI],fun x=>kF x.1⟩
noncomputable def yx:Cx:=⟨tpr,[(90,jn),(91,qa)],[]⟩
theorem yB:FB 63 qp:=fbk yx [] none (by intro x;kernel_rfl) (cz nA (cz uU (.nil _))) Tryz.func63
def yj:an:=⟨[.val .str],[.val .bool],fun x=>gP x.1⟩
noncomputable def FR:Cx:=⟨tpr,[(70,lS)],[]⟩
theorem FY:FB 64 yj:=fbk FR [] none (by intro x;kernel_rfl) (.cons u7 uW (.nil _)) Tryz.func64
def w7:List (Nat×Ann):=[(100003,⟨[(1,.ref 1 0),(3,.ref 3 0)],[(1,iU),(3,tO)],[],fun _=>0⟩),
 (100007,⟨[(1,.ref 1 0),(3,.ref 3 0)],[(1,iU),(3,tO)],[],fun _=>0⟩),
 (300011,⟨[(30,.val .bool)],[],[],fun _=>0⟩),
 (300013,⟨[(39,.val .bool)],[],[],fun _=>0⟩),
 (300015,⟨[(58,.val .bool)],[],[],fun _=>0⟩),
 (300017,⟨[(66,.val .bool)],[],[],fun _=>0⟩)]
def so:an:=⟨[.val bz],[.val tI],fun x=>lN x.1⟩
noncomputable def ze:Cx:=⟨tpr,[(21,p9),(42,uw),(43,jQ),(62,nM),(63,qp),(64,yj)],[]⟩
theorem zx:FB 45 so:=fbk ze w7 none (by intro x;kernel_rfl) (cz uT (cz zo (cz mN (cz vr (cz yB (cz FY (.nil _))))))) Tryz.func45
def se:an:=⟨[.val bz],[.val tI],fun x=>lK x.1⟩
noncomputable def yZ:Cx:=⟨tpr,[(42,uw),(43,jQ),(44,si),(45,so)],[]⟩
theorem zq:FB 24 se:=fbk yZ [] none (by intro x;kernel_rfl) (cz zo (cz mN (cz zu (cz zx (.nil _))))) Tryz.func24
def uM:List (Nat×Ann):=[(2,⟨[(22,.rowR 22),(23,.val tI),(24,.val tI)],[],[.rowC 22 3 tI],bA _⟩),
 (200002,⟨[],[],[],fun _=>0⟩)]
def oZ:an:=⟨[.val bz,.val bz],[.val tI],fun x=>gu x.1 x.2.1⟩
noncomputable def wo:Cx:=⟨tpr,[],[]⟩
theorem wB:FB 25 oZ:=fbk wo uM none (by intro x;kernel_rfl) (.nil _) Tryz.func25
def vV:List (Nat×Ann):=[(5,⟨[(0,.val (.slice bz)),(3,.ref 3 0),(11,.val (.slice bz)),(12,.val tI),(13,.val tI)],[(3,[.val tI,.val tI,.val tI])],[],bA _⟩),
 (200005,⟨[],[],[],fun _=>0⟩),
 (300010,⟨[(34,.val .bool)],[],[],fun _=>0⟩)]
def qo:an:=⟨[.val (.slice bz)],[.val tI],fun x=>kE x.1⟩
noncomputable def yw:Cx:=⟨tpr,[(24,se),(25,oZ)],[]⟩
theorem yA:FB 10 qo:=fbk yw vV none (by intro x;kernel_rfl) (cz zq (cz wB (.nil _))) Tryz.func10
def CD:List (Nat×Ann):=[(6,⟨[(5,.val (.slice .str)),(6,.val .bool),(7,.own 30 bz),(21,.val (.slice .str)),(22,.val tI),(23,.val tI)],[],[],bA _⟩),
 (200006,⟨[(7,.own 30 bz)],[],[],fun _=>0⟩),
 (300009,⟨[(45,.val .bool)],[],[],fun _=>0⟩)]
def sK:an:=⟨[.val .str],[.row 30 bz,.val tI,.val tI],fun x=>pO x.1⟩
noncomputable def FT:Cx:=⟨tpr,[(8,Ah),(9,sQ),(10,qo)],[]⟩
theorem yb:FB 4 sK:=fbk FT CD none (by intro x;kernel_rfl) (cz G7 (cz A8 (cz yA (.nil _)))) Tryz.func4
def lR:an:=⟨[.val (.slice .str),.val .str],[.val .bool],fun x=>dJ x.1 x.2.1⟩
noncomputable def sZ:Cx:=⟨tpr,[(29,gk)],[]⟩
theorem s5:FB 27 lR:=fbk sZ [] none (by intro x;kernel_rfl) (cz jj (.nil _)) Tryz.func27
end Go.Proofs.SeatU
end
