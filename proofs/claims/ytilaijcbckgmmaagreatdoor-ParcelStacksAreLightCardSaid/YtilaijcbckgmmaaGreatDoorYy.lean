/-
  Each function that the law reaches is as its plain model says, a further part. No condition.
-/
import Derived.Test.YtilaijcbckgmmaaGreatDoorYw
set_option linter.all false
set_option maxRecDepth 100000
noncomputable section
namespace Go.Proofs.SeatU
open Go.Dn Go.Md Go.Proofs
def ov:List CK:=[.val .bool,.own 95 (.int .u32)]
def mW:List CK:=[.val .bool,.val (.slice (.int .u32))]
def Bf:List (Nat×Ann):=[(4,⟨[(0,.val (.slice cN)),(9,.val (.slice cN)),(10,.val tI),(11,.val tI)],[],[],aT _⟩),
 (200004,⟨[],[],[],fun _=>0⟩)]
def kT:aB:=⟨[.val (.slice cN)],[.val tI],fun x=>ku x.1⟩
noncomputable def Cq:Cx:=⟨tpr,[(26,kF),(27,qB),(68,ia),(72,uS)],[]⟩
theorem BU:aS Cq Bf none Tryz.f32 kT:=by intro x;kernel_rfl
theorem vJ:av tpr 32:=ak Tryz.func32 rfl (by decide)
theorem vL:aJ tpr 32 kT:=aK BU (.cons rW rO (.cons zq zl (.cons nK nG (.cons El Eh (.nil _))))) aL Tryz.func32
def pV:aB:=⟨[.val (.slice aq),.val (.slice cN),.val aR],[.val tI],fun x=>jk x.1 x.2.1 x.2.2.1⟩
noncomputable def C8:Cx:=⟨tpr,[(6,gf),(22,ic),(32,kT),(43,jX)],[]⟩
theorem Cv:aS C8 [] none Tryz.f12 pV:=by intro x;kernel_rfl
theorem Dt:av tpr 12:=ak Tryz.func12 rfl (by decide)
theorem DH:aJ tpr 12 pV:=aK Cv (.cons kM kK (.cons uj ud (.cons vL vJ (.cons uh uc (.nil _))))) aL Tryz.func12
def E0:List (Nat×Ann):=[(1,⟨[(0,.val (.slice (.int .u32)))],[],[],aT _⟩),
 (200001,⟨[(0,.val (.slice (.int .u32)))],[],[],fun _=>0⟩)]
def l9:aB:=⟨[.val (.slice (.int .u32))],[.val (.slice (.int .u32))],fun x=>mR x.1⟩
noncomputable def Ip:Cx:=⟨tpr,[],[]⟩
theorem Hj:aS Ip E0 none Tryz.f84 l9:=by intro x;kernel_rfl
theorem vg:av tpr 84:=ak Tryz.func84 rfl (by decide)
theorem vi:aJ tpr 84 l9:=aK Hj (.nil _) aL Tryz.func84
def kZ:aB:=⟨[.val .bool,.val (.slice (.int .u32))],[.val aX],fun x=>iu x.1 x.2.1⟩
noncomputable def M7:Cx:=⟨tpr,[(84,l9)],[]⟩
theorem K7:aS M7 [] none Tryz.f51 kZ:=by intro x;kernel_rfl
theorem qs:av tpr 51:=ak Tryz.func51 rfl (by decide)
theorem qw:aJ tpr 51 kZ:=aK K7 (.cons vi vg (.nil _)) aL Tryz.func51
def MX:List (Nat×Ann):=[(100003,⟨[(0,.val tI),(2,.ref 2 0),(3,.val (.int .u64))],[(2,ov)],[],fun _=>0⟩)]
def nR:aB:=⟨[.val tI],[.val aX],fun x=>qc x.1⟩
noncomputable def PG:Cx:=⟨tpr,[(51,kZ)],[]⟩
theorem Oa:aS PG MX none Tryz.f19 nR:=by intro x;kernel_rfl
theorem ug:av tpr 19:=ak Tryz.func19 rfl (by decide)
theorem um:aJ tpr 19 nR:=aK Oa (.cons qw qs (.nil _)) aL Tryz.func19
def C1:List (Nat×Ann):=[(3,⟨[(2,.ref 2 0),(3,.ref 3 0),(4,.ref 4 0),(5,.rowR 18),(20,.val (.slice (.int .u32))),(21,.val tI),(22,.val tI)],[(2,mW),(3,mW),(4,ov)],[.rowC 18 95 (.int .u32)],aT _⟩),
 (7,⟨[(2,.ref 2 0),(3,.ref 3 0),(4,.ref 4 0),(5,.rowR 18),(6,.val tI),(7,.val (.int .u32)),(8,.val (.int .u64)),(20,.val (.slice (.int .u32))),(21,.val tI),(22,.val tI),(28,.val (.slice (.int .u32))),(29,.val tI),(30,.val tI)],[(2,mW),(3,mW),(4,ov)],[.rowC 18 95 (.int .u32)],aT _⟩),
 (200003,⟨[(2,.ref 2 0),(3,.ref 3 0),(4,.ref 4 0),(5,.rowR 18)],[(2,mW),(3,mW),(4,ov)],[.rowC 18 95 (.int .u32)],fun _=>0⟩),
 (200007,⟨[(2,.ref 2 0),(3,.ref 3 0),(4,.ref 4 0),(5,.rowR 18),(6,.val tI),(8,.val (.int .u64)),(20,.val (.slice (.int .u32))),(21,.val tI),(22,.val tI)],[(2,mW),(3,mW),(4,ov)],[.rowC 18 95 (.int .u32)],fun _=>0⟩)]
def iS:aB:=⟨[.val aX,.val aX],[.val aX],fun x=>gO x.1 x.2.1⟩
noncomputable def Fh:Cx:=⟨tpr,[(51,kZ)],[]⟩
theorem EE:aS Fh C1 none Tryz.f44 iS:=by intro x;kernel_rfl
theorem mZ:av tpr 44:=ak Tryz.func44 rfl (by decide)
theorem nh:aJ tpr 44 iS:=aK EE (.cons qw qs (.nil _)) aL Tryz.func44
def Ia:List (Nat×Ann):=[(3,⟨[(2,.ref 2 0),(3,.ref 3 0),(5,.val tI),(6,.val tI)],[(2,ov),(3,mW)],[],aT _⟩),
 (200003,⟨[(2,.ref 2 0),(3,.ref 3 0)],[(2,ov),(3,mW)],[],fun _=>0⟩)]
def tg:aB:=⟨[.val tI],[.val aX],fun x=>uy x.1⟩
noncomputable def KZ:Cx:=⟨tpr,[(19,nR),(44,iS)],[]⟩
theorem JD:aS KZ Ia none Tryz.f45 tg:=by intro x;kernel_rfl
theorem CC:av tpr 45:=ak Tryz.func45 rfl (by decide)
theorem CI:aJ tpr 45 tg:=aK JD (.cons um ug (.cons nh mZ (.nil _))) aL Tryz.func45
def pP:aB:=⟨[.val aR,.val tI],[.val aX],fun x=>ig x.1 x.2.1⟩
noncomputable def Ih:Cx:=⟨tpr,[(19,nR),(44,iS),(45,tg)],[]⟩
theorem G8:aS Ih [] none Tryz.f48 pP:=by intro x;kernel_rfl
theorem Ax:av tpr 48:=ak Tryz.func48 rfl (by decide)
theorem AH:aJ tpr 48 pP:=aK G8 (.cons um ug (.cons nh mZ (.cons CI CC (.nil _)))) aL Tryz.func48
def KQ:List (Nat×Ann):=[(6,⟨[(1,.val (.slice (.int .u32))),(5,.own 95 (.int .u32)),(6,.val (.int .u64)),(20,.val (.slice (.int .u32))),(21,.val tI),(22,.val tI)],[],[],aT _⟩),
 (100002,⟨[(0,.val (.slice (.int .u32))),(1,.val (.slice (.int .u32)))],[],[],fun _=>0⟩),
 (100010,⟨[(1,.val (.slice (.int .u32))),(5,.own 95 (.int .u32)),(6,.val (.int .u64)),(20,.val (.slice (.int .u32))),(21,.val tI),(22,.val tI)],[],[],fun _=>0⟩),
 (200006,⟨[(5,.own 95 (.int .u32)),(6,.val (.int .u64))],[],[],fun _=>0⟩)]
def A2:aB:=⟨[.val (.slice (.int .u32)),.val (.slice (.int .u32))],[.row 95 (.int .u32)],fun x=>zb x.1 x.2.1⟩
noncomputable def N3:Cx:=⟨tpr,[],[]⟩
theorem Na:aS N3 KQ none Tryz.f52 A2:=by intro x;kernel_rfl
theorem Oq:av tpr 52:=ak Tryz.func52 rfl (by decide)
theorem OM:aJ tpr 52 A2:=aK Na (.nil _) aL Tryz.func52
def Ib:List (Nat×Ann):=[(6,⟨[(1,.val (.slice (.int .u32))),(5,.own 95 (.int .u32)),(6,.val (.int .u64)),(20,.val (.slice (.int .u32))),(21,.val tI),(22,.val tI)],[],[],aT _⟩),
 (100002,⟨[(0,.val (.slice (.int .u32))),(1,.val (.slice (.int .u32)))],[],[],fun _=>0⟩),
 (100010,⟨[(1,.val (.slice (.int .u32))),(5,.own 95 (.int .u32)),(6,.val (.int .u64)),(20,.val (.slice (.int .u32))),(21,.val tI),(22,.val tI)],[],[],fun _=>0⟩),
 (200006,⟨[(5,.own 95 (.int .u32)),(6,.val (.int .u64))],[],[],fun _=>0⟩)]
def xU:aB:=⟨[.val (.slice (.int .u32)),.val (.slice (.int .u32))],[.val (.slice (.int .u32))],fun x=>Ce x.1 x.2.1⟩
noncomputable def K0:Cx:=⟨tpr,[],[]⟩
theorem JE:aS K0 Ib none Tryz.f52 xU:=by intro x;kernel_rfl
theorem Lh:av tpr 52:=ak Tryz.func52 rfl (by decide)
theorem LC:aJ tpr 52 xU:=aK JE (.nil _) aL Tryz.func52
def EZ:List (Nat×Ann):=[(4,⟨[(0,.val (.slice (.int .u32))),(1,.val (.slice (.int .u32))),(5,.val tI)],[],[],aT _⟩),
 (200004,⟨[],[],[],fun _=>0⟩)]
def pW:aB:=⟨[.val (.slice (.int .u32)),.val (.slice (.int .u32))],[.val tI],fun x=>qC x.1 x.2.1⟩
noncomputable def Io:Cx:=⟨tpr,[],[]⟩
theorem Hi:aS Io EZ none Tryz.f53 pW:=by intro x;kernel_rfl
theorem AB:av tpr 53:=ak Tryz.func53 rfl (by decide)
theorem AL:aJ tpr 53 pW:=aK Hi (.nil _) aL Tryz.func53
def Jg:List (Nat×Ann):=[(4,⟨[(1,.val (.slice (.int .u32))),(5,.own 95 (.int .u32)),(6,.val (.int .u64)),(13,.val (.slice (.int .u32))),(14,.val tI),(15,.val tI)],[],[],aT _⟩),
 (100008,⟨[(1,.val (.slice (.int .u32))),(5,.own 95 (.int .u32)),(9,.val (.int .u64)),(13,.val (.slice (.int .u32))),(14,.val tI),(15,.val tI)],[],[],fun _=>0⟩),
 (200004,⟨[(5,.own 95 (.int .u32))],[],[],fun _=>0⟩)]
def uV:aB:=⟨[.val (.slice (.int .u32)),.val (.slice (.int .u32))],[.val (.slice (.int .u32))],fun x=>tq x.1 x.2.1⟩
noncomputable def M6:Cx:=⟨tpr,[(84,l9)],[]⟩
theorem K6:aS M6 Jg none Tryz.f54 uV:=by intro x;kernel_rfl
theorem Ek:av tpr 54:=ak Tryz.func54 rfl (by decide)
theorem Eo:aJ tpr 54 uV:=aK K6 (.cons vi vg (.nil _)) aL Tryz.func54
def jm:aB:=⟨[.val aX,.val aX],[.val aX],fun x=>fk x.1 x.2.1⟩
noncomputable def G5:Cx:=⟨tpr,[(51,kZ),(52,xU),(53,pW),(54,uV)],[]⟩
theorem Fs:aS G5 [] none Tryz.f18 jm:=by intro x;kernel_rfl
theorem nX:av tpr 18:=ak Tryz.func18 rfl (by decide)
theorem nY:aJ tpr 18 jm:=aK Fs (.cons qw qs (.cons LC Lh (.cons AL AB (.cons Eo Ek (.nil _))))) aL Tryz.func18
def Et:List (Nat×Ann):=[(3,⟨[(0,.val (.slice aq)),(4,.ref 4 0),(6,.mapR 16),(17,.val (.slice cN)),(18,.val tI),(19,.val tI)],[(4,ov)],[.mapC 16 fh aR],aT _⟩),
 (9,⟨[(4,.ref 4 0),(6,.mapR 16),(9,.ref 9 0),(33,.val (.slice aq)),(34,.val tI),(35,.val tI)],[(4,ov),(9,mW)],[.mapC 16 fh aR],aT _⟩),
 (13,⟨[(4,.ref 4 0),(6,.mapR 16),(9,.ref 9 0),(33,.val (.slice aq)),(34,.val tI),(35,.val tI),(45,.val (.slice iq)),(46,.val tI),(47,.val tI)],[(4,ov),(9,mW)],[.mapC 16 fh aR],aT _⟩),
 (200003,⟨[(0,.val (.slice aq)),(4,.ref 4 0),(6,.mapR 16)],[(4,ov)],[.mapC 16 fh aR],fun _=>0⟩),
 (200009,⟨[(4,.ref 4 0),(9,.ref 9 0)],[(4,ov),(9,mW)],[],fun _=>0⟩),
 (200013,⟨[(4,.ref 4 0),(6,.mapR 16),(9,.ref 9 0),(33,.val (.slice aq)),(34,.val tI),(35,.val tI)],[(4,ov),(9,mW)],[.mapC 16 fh aR],fun _=>0⟩)]
def om:aB:=⟨[.val (.slice aq),.val (.slice cN)],[.val aX,.val .bool],fun x=>jN x.1 x.2.1⟩
noncomputable def GY:Cx:=⟨tpr,[(18,jm),(19,nR),(44,iS),(48,pP)],[]⟩
theorem Fp:aS GY Et none Tryz.f35 om:=by intro x;kernel_rfl
theorem zG:av tpr 35:=ak Tryz.func35 rfl (by decide)
theorem zJ:aJ tpr 35 om:=aK Fp (.cons nY nX (.cons um ug (.cons nh mZ (.cons AH Ax (.nil _))))) aL Tryz.func35
def nx:aB:=⟨[.val aX],[.val aX],fun x=>ny x.1⟩
noncomputable def Fg:Cx:=⟨tpr,[(51,kZ)],[]⟩
theorem ED:aS Fg [] none Tryz.f75 nx:=by intro x;kernel_rfl
theorem yH:av tpr 75:=ak Tryz.func75 rfl (by decide)
theorem yS:aJ tpr 75 nx:=aK ED (.cons qw qs (.nil _)) aL Tryz.func75
def tP:aB:=⟨[.val aX,.val aX],[.val aX],fun x=>th x.1 x.2.1⟩
noncomputable def GZ:Cx:=⟨tpr,[(18,jm),(75,nx)],[]⟩
theorem Fq:aS GZ [] none Tryz.f49 tP:=by intro x;kernel_rfl
theorem Ht:av tpr 49:=ak Tryz.func49 rfl (by decide)
theorem HB:aJ tpr 49 tP:=aK Fq (.cons nY nX (.cons yS yH (.nil _))) aL Tryz.func49
def oo:aB:=⟨[.val aX],[.val tI],fun x=>jP x.1⟩
noncomputable def G6:Cx:=⟨tpr,[],[]⟩
theorem Ft:aS G6 [] none Tryz.f50 oo:=by intro x;kernel_rfl
theorem zH:av tpr 50:=ak Tryz.func50 rfl (by decide)
theorem zK:aJ tpr 50 oo:=aK Ft (.nil _) aL Tryz.func50
def ji:aB:=⟨[.val aX,.val aX],[.val tI],fun x=>fS x.1 x.2.1⟩
noncomputable def C9:Cx:=⟨tpr,[(49,tP),(50,oo)],[]⟩
theorem Cw:aS C9 [] none Tryz.f15 ji:=by intro x;kernel_rfl
theorem pE:av tpr 15:=ak Tryz.func15 rfl (by decide)
theorem pI:aJ tpr 15 ji:=aK Cw (.cons HB Ht (.cons zK zH (.nil _))) aL Tryz.func15
def nw:aB:=⟨[.val aI,.val aI],[.val tI],fun x=>jf x.1 x.2.1⟩
noncomputable def Ff:Cx:=⟨tpr,[(15,ji)],[]⟩
theorem EC:aS Ff [] none Tryz.f47 nw:=by intro x;kernel_rfl
theorem yF:av tpr 47:=ak Tryz.func47 rfl (by decide)
theorem yQ:aJ tpr 47 nw:=aK EC (.cons pI pE (.nil _)) aL Tryz.func47
def mT:List (Nat×Ann):=[(1,⟨[(0,.rowR 10250000),(1,.val tI),(2,.val tI),(3,.val (.clo 47 .unit)),(8,.val tI)],[],[.rowC 10250000 56 aI],aT _⟩),
 (4,⟨[(0,.rowR 10250000),(1,.val tI),(2,.val tI),(3,.val (.clo 47 .unit)),(8,.val tI),(9,.val tI)],[],[.rowC 10250000 56 aI],aT _⟩),
 (200001,⟨[],[],[.rowC 10250000 56 aI],fun _=>0⟩),
 (200004,⟨[(0,.rowR 10250000),(1,.val tI),(2,.val tI),(3,.val (.clo 47 .unit)),(8,.val tI)],[],[.rowC 10250000 56 aI],fun _=>0⟩)]
def eY:aB:=⟨[.mrow 56 aI,.val tI,.val tI,.val (.clo 47 .unit)],[],fun x=>bZ x.1 x.2.1 x.2.2.1 x.2.2.2.1⟩
noncomputable def nU:Cx:=⟨tpr,[(47,nw)],[]⟩
theorem nF:aS nU mT none Tryz.f126 eY:=by intro x;kernel_rfl
theorem nV:av tpr 126:=ak Tryz.func126 rfl (by decide)
theorem nW:aJ tpr 126 eY:=aK nF (.cons yQ yF (.nil _)) aL Tryz.func126
def oN:List (Nat×Ann):=[(1,⟨[(0,.rowR 10250000),(1,.val tI),(2,.val tI),(3,.val tI),(10,.val tI)],[],[.rowC 10250000 56 aI],aT _⟩),
 (200001,⟨[],[],[.rowC 10250000 56 aI],fun _=>0⟩)]
def fN:aB:=⟨[.mrow 56 aI,.val tI,.val tI,.val tI,.val (.clo 47 .unit)],[],fun x=>bT x.1 x.2.1 x.2.2.1 x.2.2.2.1 x.2.2.2.2.1⟩
noncomputable def qk:Cx:=⟨tpr,[],[]⟩
theorem pq:aS qk oN none Tryz.f164 fN:=by intro x;kernel_rfl
theorem qq:av tpr 164:=ak Tryz.func164 rfl (by decide)
theorem qv:aJ tpr 164 fN:=aK pq (.nil _) aL Tryz.func164
def qO:List (Nat×Ann):=[(2,⟨[(0,.rowR 10250000),(2,.val tI),(4,.val (.clo 47 .unit)),(10,.val tI),(11,.val tI)],[],[.rowC 10250000 56 aI],aT _⟩),
 (200002,⟨[(0,.rowR 10250000),(2,.val tI),(4,.val (.clo 47 .unit)),(10,.val tI)],[],[.rowC 10250000 56 aI],fun _=>0⟩)]
def gA:aB:=⟨[.mrow 56 aI,.val tI,.val tI,.val tI,.val (.clo 47 .unit)],[],fun x=>fA x.1 x.2.1 x.2.2.1 x.2.2.2.1 x.2.2.2.2.1⟩
noncomputable def rI:Cx:=⟨tpr,[(164,fN)],[]⟩
theorem rA:aS rI qO none Tryz.f152 gA:=by intro x;kernel_rfl
theorem rM:av tpr 152:=ak Tryz.func152 rfl (by decide)
theorem rU:aJ tpr 152 gA:=aK rA (.cons qv qq (.nil _)) aL Tryz.func152
def iY:List (Nat×Ann):=[(3,⟨[(0,.rowR 10250000),(1,.val tI),(4,.val (.clo 47 .unit)),(10,.val tI),(11,.val tI)],[],[.rowC 10250000 56 aI],aT _⟩),
 (9,⟨[(0,.rowR 10250000),(10,.val tI),(13,.val tI)],[],[.rowC 10250000 56 aI],aT _⟩),
 (15,⟨[(0,.rowR 10250000),(2,.val tI),(4,.val (.clo 47 .unit)),(14,.val tI),(15,.val tI)],[],[.rowC 10250000 56 aI],aT _⟩),
 (21,⟨[(0,.rowR 10250000),(14,.val tI),(17,.val tI)],[],[.rowC 10250000 56 aI],aT _⟩),
 (33,⟨[(0,.rowR 10250000),(1,.val tI),(2,.val tI),(3,.val tI),(4,.val (.clo 47 .unit)),(18,.val tI),(19,.val tI),(20,.val tI),(21,.val tI),(22,.val tI)],[],[.rowC 10250000 56 aI],aT _⟩),
 (100030,⟨[(0,.rowR 10250000),(1,.val tI),(2,.val tI),(3,.val tI),(4,.val (.clo 47 .unit)),(18,.val tI),(19,.val tI),(20,.val tI),(21,.val tI)],[],[.rowC 10250000 56 aI],fun _=>0⟩),
 (100040,⟨[(0,.rowR 10250000),(1,.val tI),(3,.val tI),(4,.val (.clo 47 .unit)),(18,.val tI),(20,.val tI),(24,.val tI)],[],[.rowC 10250000 56 aI],fun _=>0⟩),
 (100042,⟨[(0,.rowR 10250000),(3,.val tI),(4,.val (.clo 47 .unit)),(18,.val tI),(24,.val tI)],[],[.rowC 10250000 56 aI],fun _=>0⟩),
 (200003,⟨[(0,.rowR 10250000),(1,.val tI),(10,.val tI)],[],[.rowC 10250000 56 aI],fun _=>0⟩),
 (200009,⟨[],[],[.rowC 10250000 56 aI],fun _=>0⟩),
 (200015,⟨[(0,.rowR 10250000),(2,.val tI),(14,.val tI)],[],[.rowC 10250000 56 aI],fun _=>0⟩),
 (200021,⟨[],[],[.rowC 10250000 56 aI],fun _=>0⟩),
 (200033,⟨[(0,.rowR 10250000),(1,.val tI),(2,.val tI),(3,.val tI),(4,.val (.clo 47 .unit)),(18,.val tI),(19,.val tI),(20,.val tI)],[],[.rowC 10250000 56 aI],fun _=>0⟩)]
def bB:List PM:=[.mrow 56 aI,.val tI,.val tI,.val tI,.val (.clo 47 .unit)]
def bO:List RM:=[]
noncomputable def jr:List (Nat×aB):=[(47,nw),(152,gA)]
def jJ:aB:=⟨bB,bO,fun x=>cF x.1 x.2.1 x.2.2.1 x.2.2.2.1 x.2.2.2.2.1⟩
theorem qm:∀ (self:eU bB→Option (ck bB bO)) (x:eU bB),Ir ⟨tpr,(127,⟨bB,bO,self⟩)::jr,[]⟩ iY none Tryz.f127 ⟨bB,bO,fun x=>bH self x.1 x.2.1 x.2.2.1 x.2.2.2.1 x.2.2.2.2.1⟩ x=bH self x.1 x.2.1 x.2.2.1 x.2.2.2.1 x.2.2.2.2.1:=by intro self x;kernel_rfl
theorem jG:av tpr 127:=ak Tryz.func127 rfl (by decide)
theorem qR:aJ tpr 127 jJ:=PR (ps:=bB) (rs:=bO) (m:=fun n x=>AS (fun self x=>bH self x.1 x.2.1 x.2.2.1 x.2.2.2.1 x.2.2.2.2.1) n x) (JQ (P:=Tryz.prog) (specs:=jr) (ps:=bB) (rs:=bO) (.cons yQ yF (.cons rU rM (.nil _))) (by kernel_rfl) (fun self x=>bH self x.1 x.2.1 x.2.2.1 x.2.2.2.1 x.2.2.2.2.1) iY none (by kernel_rfl) jG qm) (fun x=>fJ x.1 x.2.1 x.2.2.1 x.2.2.2.1 x.2.2.2.2.1)
def qP:List (Nat×Ann):=[(2,⟨[(0,.rowR 10250000),(1,.val tI),(2,.val (.clo 47 .unit)),(6,.val tI),(7,.val tI),(8,.val tI)],[],[.rowC 10250000 56 aI],aT _⟩),
 (7,⟨[(0,.rowR 10250000),(1,.val tI),(2,.val (.clo 47 .unit)),(6,.val tI)],[],[.rowC 10250000 56 aI],aT _⟩),
 (9,⟨[(0,.rowR 10250000),(1,.val tI),(2,.val (.clo 47 .unit)),(6,.val tI),(7,.val tI),(8,.val tI)],[],[.rowC 10250000 56 aI],aT _⟩),
 (200002,⟨[(0,.rowR 10250000),(1,.val tI),(2,.val (.clo 47 .unit)),(6,.val tI),(7,.val tI)],[],[.rowC 10250000 56 aI],fun _=>0⟩),
 (200007,⟨[],[],[.rowC 10250000 56 aI],fun _=>0⟩),
 (200009,⟨[(0,.rowR 10250000),(1,.val tI),(2,.val (.clo 47 .unit)),(6,.val tI),(7,.val tI)],[],[.rowC 10250000 56 aI],fun _=>0⟩)]
def gB:aB:=⟨[.mrow 56 aI,.val tI,.val (.clo 47 .unit)],[],fun x=>gZ x.1 x.2.1 x.2.2.1⟩
noncomputable def rJ:Cx:=⟨tpr,[(126,eY),(127,jJ)],[]⟩
theorem rB:aS rJ qP none Tryz.f83 gB:=by intro x;kernel_rfl
theorem rN:av tpr 83:=ak Tryz.func83 rfl (by decide)
theorem rV:aJ tpr 83 gB:=aK rB (.cons nW nV (.cons qR jG (.nil _))) aL Tryz.func83
def fZ:aB:=⟨[.mrow 56 aI,.val (.clo 47 .unit)],[],fun x=>eZ x.1 x.2.1⟩
noncomputable def rz:Cx:=⟨tpr,[(83,gB)],[]⟩
theorem qQ:aS rz [] none Tryz.f46 fZ:=by intro x;kernel_rfl
theorem rC:av tpr 46:=ak Tryz.func46 rfl (by decide)
theorem rD:aJ tpr 46 fZ:=aK qQ (.cons rV rN (.nil _)) aL Tryz.func46
def EX:List (Nat×Ann):=[(3,⟨[(1,.val (.slice cN)),(6,.own 56 aI),(11,.val (.slice aq)),(12,.val tI),(13,.val tI)],[],[],aT _⟩),
 (200003,⟨[(6,.own 56 aI)],[],[],fun _=>0⟩)]
def vu:aB:=⟨[.val (.slice aq),.val (.slice cN)],[.val (.slice aI),.val .bool],fun x=>mP x.1 x.2.1⟩
noncomputable def Il:Cx:=⟨tpr,[(35,om),(44,iS),(45,tg),(46,fZ)],[]⟩
theorem Hg:aS Il EX none Tryz.f13 vu:=by intro x;kernel_rfl
theorem II:av tpr 13:=ak Tryz.func13 rfl (by decide)
theorem IT:aJ tpr 13 vu:=aK Hg (.cons zJ zG (.cons nh mZ (.cons CI CC (.cons rD rC (.nil _))))) aL Tryz.func13
def wS:aB:=⟨[.val aR],[.val aX],fun x=>rG x.1⟩
noncomputable def Jp:Cx:=⟨tpr,[(48,pP)],[]⟩
theorem Is:aS Jp [] none Tryz.f14 wS:=by intro x;kernel_rfl
theorem JR:av tpr 14:=ak Tryz.func14 rfl (by decide)
theorem Kb:aJ tpr 14 wS:=aK Is (.cons AH Ax (.nil _)) aL Tryz.func14
def tK:aB:=⟨[.val aX,.val (.ptr aI),.val (.ptr aX)],[.val .bool],fun x=>xL x.1 x.2.1 x.2.2.1⟩
noncomputable def GU:Cx:=⟨tpr,[(15,ji),(18,jm)],[]⟩
theorem Fk:aS GU [] none Tryz.f17 tK:=by intro x;kernel_rfl
theorem Ho:av tpr 17:=ak Tryz.func17 rfl (by decide)
theorem Hv:aJ tpr 17 tK:=aK Fk (.cons pI pE (.cons nY nX (.nil _))) aL Tryz.func17
def vQ:List (Nat×Ann):=[(2,⟨[(0,.val (.slice aX)),(1,.val (.clo 17 (.pair (.ptr aI) (.ptr aX)))),(7,.val tI),(8,.val tI)],[],[],aT _⟩),
 (200002,⟨[],[],[],fun _=>0⟩)]
def jx:aB:=⟨[.val (.slice aX),.val (.clo 17 (.pair (.ptr aI) (.ptr aX)))],[.val tI],fun x=>fL x.1 x.2.1⟩
noncomputable def xb:Cx:=⟨tpr,[(17,tK)],[]⟩
theorem wh:aS xb vQ none Tryz.f16 jx:=by intro x;kernel_rfl
theorem xd:av tpr 16:=ak Tryz.func16 rfl (by decide)
theorem xg:aJ tpr 16 jx:=aK wh (.cons Hv Ho (.nil _)) aL Tryz.func16
def kX:aB:=⟨[.val (.slice aq)],[.row 36 aq],fun x=>jD x.1⟩
noncomputable def zi:Cx:=⟨tpr,[],[]⟩
theorem yB:aS zi [] none Tryz.f55 kX:=by intro x;kernel_rfl
theorem zm:av tpr 55:=ak Tryz.func55 rfl (by decide)
theorem zu:aJ tpr 55 kX:=aK yB (.nil _) aL Tryz.func55
def kE:aB:=⟨[.val (.slice iq)],[.val (.slice iq)],fun x=>jg x.1⟩
noncomputable def yA:Cx:=⟨tpr,[],[]⟩
theorem xw:aS yA [] none Tryz.f56 kE:=by intro x;kernel_rfl
theorem yG:av tpr 56:=ak Tryz.func56 rfl (by decide)
theorem yR:aJ tpr 56 kE:=aK xw (.nil _) aL Tryz.func56
def Ap:List (Nat×Ann):=[(3,⟨[(0,.rowR 23824),(7,.rowR 23824),(8,.val tI),(9,.val tI)],[],[.rowC 23824 36 aq],aT _⟩),
 (200003,⟨[(0,.rowR 23824)],[],[.rowC 23824 36 aq],fun _=>0⟩)]
def nP:aB:=⟨[.val (.slice aq)],[.row 36 aq],fun x=>gR x.1⟩
noncomputable def BQ:Cx:=⟨tpr,[(55,kX),(56,kE)],[]⟩
theorem Bk:aS BQ Ap none Tryz.f20 nP:=by intro x;kernel_rfl
theorem BX:av tpr 20:=ak Tryz.func20 rfl (by decide)
theorem B3:aJ tpr 20 nP:=aK Bk (.cons zu zm (.cons yR yG (.nil _))) aL Tryz.func20
def H9:List (Nat×Ann):=[(5,⟨[(4,.val tI),(15,.val tI),(16,.val tI)],[],[],aT _⟩),
 (200005,⟨[(4,.val tI)],[],[],fun _=>0⟩)]
def xT:aB:=⟨[.val .str],[.val tI,.val .bool],fun x=>yc x.1⟩
noncomputable def KY:Cx:=⟨tpr,[(85,rj)],[]⟩
theorem JC:aS KY H9 none Tryz.f57 xT:=by intro x;kernel_rfl
theorem Lg:av tpr 57:=ak Tryz.func57 rfl (by decide)
theorem LB:aJ tpr 57 xT:=aK JC (.cons BE Bx (.nil _)) aL Tryz.func57
end Go.Proofs.SeatU
end
