/-
  Each function that the law reaches is as its plain model says, a further part. No condition.
-/
import Derived.Test.YtbjhpnieokphbaaGreatDoorYy
import Derived.Test.YtbjhpnieokphbaaGreatDoorYx
set_option linter.all false
set_option maxRecDepth 100000
noncomputable section
namespace Go.Proofs.SeatU
open Go.Dn Go.Md Go.Proofs
def dh:List CK:=[.val .bool,.own 3 tI]
def zN:List CK:=[.val .bool,.rowR 24]
def iQ:List CK:=[.val .bool,.val (.slice tI)]
def Lr:List CK:=[.val .str,.val .str,.val tI,.val (.slice b5)]
def mJ:aC:=⟨[.val dx,.val .str,.val .bool],[.val tI],fun x=>iu x.1 x.2.1 x.2.2.1⟩
noncomputable def AE:Cx:=⟨tpr,[(7,gQ),(38,gD)],[]⟩
theorem zX:aV AE [] none Tryz.f16 mJ:=by intro x;kernel_rfl
theorem AV:av tpr 16:=aq Tryz.func16 rfl (by decide)
theorem Ba:aF tpr 16 mJ:=aI zX (.cons rY rS (.cons ox ot (.nil _))) aK Tryz.func16
def mI:aC:=⟨[.val tI,.val (.ptr dx),.val (.ptr .str)],[.val .bool],fun x=>pY x.1 x.2.1 x.2.2.1⟩
noncomputable def AD:Cx:=⟨tpr,[],[]⟩
theorem zW:aV AD [] none Tryz.f79 mI:=by intro x;kernel_rfl
theorem AU:av tpr 79:=aq Tryz.func79 rfl (by decide)
theorem A9:aF tpr 79 mI:=aI zW (.nil _) aK Tryz.func79
def wz:List (Nat×Ann):=[(2,⟨[(0,.val (.slice tI)),(1,.val (.clo 79 (.pair (.ptr dx) (.ptr .str)))),(7,.val tI),(8,.val tI)],[],[],bz _⟩),
 (200002,⟨[],[],[],fun _=>0⟩)]
def jF:aC:=⟨[.val (.slice tI),.val (.clo 79 (.pair (.ptr dx) (.ptr .str)))],[.val tI],fun x=>mC x.1 x.2.1⟩
noncomputable def yt:Cx:=⟨tpr,[(79,mI)],[]⟩
theorem xh:aV yt wz none Tryz.f117 jF:=by intro x;kernel_rfl
theorem yz:av tpr 117:=aq Tryz.func117 rfl (by decide)
theorem yB:aF tpr 117 jF:=aI xh (.cons A9 AU (.nil _)) aK Tryz.func117
def gV:aC:=⟨[.val (.slice tI),.val (.clo 79 (.pair (.ptr dx) (.ptr .str)))],[.val .bool],fun x=>jC x.1 x.2.1⟩
noncomputable def vH:Cx:=⟨tpr,[(117,jF)],[]⟩
theorem u5:aV vH [] none Tryz.f78 gV:=by intro x;kernel_rfl
theorem vP:av tpr 78:=aq Tryz.func78 rfl (by decide)
theorem vT:aF tpr 78 gV:=aI u5 (.cons yB yz (.nil _)) aK Tryz.func78
def oK:aC:=⟨[.val dx,.val tI,.val .str],[.val .bool],fun x=>nY x.1 x.2.1 x.2.2.1⟩
noncomputable def CF:Cx:=⟨tpr,[(50,mG),(78,gV)],[]⟩
theorem B3:aV CF [] none Tryz.f39 oK:=by intro x;kernel_rfl
theorem C3:av tpr 39:=aq Tryz.func39 rfl (by decide)
theorem Dj:aF tpr 39 oK:=aI B3 (.cons xL xA (.cons vT vP (.nil _))) aK Tryz.func39
def p8:aC:=⟨[.val dx,.val tI,.val .str],[.val .bool],fun x=>gf x.1 x.2.1 x.2.2.1⟩
noncomputable def Eb:Cx:=⟨tpr,[(39,oK)],[]⟩
theorem CP:aV Eb [] none Tryz.f17 p8:=by intro x;kernel_rfl
theorem Es:av tpr 17:=aq Tryz.func17 rfl (by decide)
theorem EB:aF tpr 17 p8:=aI CP (.cons Dj C3 (.nil _)) aK Tryz.func17
def qd:aC:=⟨[.val aH,.val aH],[.val aH],fun x=>gj x.1 x.2.1⟩
noncomputable def Ef:Cx:=⟨tpr,[(75,gW),(80,uj),(81,mM),(82,q7)],[]⟩
theorem CT:aV Ef [] none Tryz.f40 qd:=by intro x;kernel_rfl
theorem Ey:av tpr 40:=aq Tryz.func40 rfl (by decide)
theorem EG:aF tpr 40 qd:=aI CT (.cons nh mZ (.cons I4 IF (.cons xO xD (.cons BQ BM (.nil _))))) aK Tryz.func40
def ja:aC:=⟨[.map aB aH,.val aB,.val bS],[],fun x=>gP x.1 x.2.1 x.2.2.1⟩
noncomputable def xe:Cx:=⟨tpr,[(30,mE),(37,kQ),(40,qd)],[]⟩
theorem wD:aV xe [] none Tryz.f18 ja:=by intro x;kernel_rfl
theorem xB:av tpr 18:=aq Tryz.func18 rfl (by decide)
theorem xM:aF tpr 18 ja:=aI wD (.cons xI xu (.cons qw qu (.cons EG Ey (.nil _)))) aK Tryz.func18
def ud:aC:=⟨[.val aH],[.val bS,.val tI],fun x=>uD x.1⟩
noncomputable def Ig:Cx:=⟨tpr,[(36,mD)],[]⟩
theorem Gz:aV Ig [] none Tryz.f46 ud:=by intro x;kernel_rfl
theorem IB:av tpr 46:=aq Tryz.func46 rfl (by decide)
theorem IZ:aF tpr 46 ud:=aI Gz (.cons xH xq (.nil _)) aK Tryz.func46
def BW:List (Nat×Ann):=[(4,⟨[(0,.mapR 10250000),(4,.own 36 aR),(13,.rowR 12),(14,.val tI),(15,.val tI)],[],[.rowC 12 61 aB,.mapC 10250000 aB aH],bz _⟩),
 (200004,⟨[(4,.own 36 aR)],[],[.mapC 10250000 aB aH],fun _=>0⟩)]
def p9:aC:=⟨[.map aB aH],[.row 36 aR,.val tI],fun x=>pG x.1⟩
noncomputable def Ec:Cx:=⟨tpr,[(46,ud)],[(41,Qd),(42,Qe)]⟩
theorem CQ:aV Ec BW none Tryz.f19 p9:=by intro x;kernel_rfl
theorem Et:av tpr 19:=aq Tryz.func19 rfl (by decide)
theorem EC:aF tpr 19 p9:=aI CQ (.RI SQ SN (.RI SR SO (.cons IZ IB (.nil _)))) aK Tryz.func19
def Cm:List (Nat×Ann):=[(6,⟨[(1,.val .str),(2,.ref 2 0),(7,.mapR 18),(20,.val (.slice b5)),(21,.val tI),(22,.val tI)],[(2,Lr)],[.mapC 18 aB aH],bz _⟩),
 (10,⟨[(1,.val .str),(2,.ref 2 0),(7,.mapR 18),(20,.val (.slice b5)),(21,.val tI),(22,.val tI),(33,.val (.slice gX)),(34,.val tI),(35,.val tI)],[(2,Lr)],[.mapC 18 aB aH],bz _⟩),
 (200006,⟨[(7,.mapR 18)],[],[.mapC 18 aB aH],fun _=>0⟩),
 (200010,⟨[(1,.val .str),(2,.ref 2 0),(7,.mapR 18),(20,.val (.slice b5)),(21,.val tI),(22,.val tI)],[(2,Lr)],[.mapC 18 aB aH],fun _=>0⟩)]
def rG:aC:=⟨[.val dx,.val .str],[.val (.slice aR),.val tI],fun x=>qO x.1 x.2.1⟩
noncomputable def Fg:Cx:=⟨tpr,[(16,mJ),(17,p8),(18,ja),(19,p9)],[]⟩
theorem Ek:aV Fg Cm none Tryz.f6 rG:=by intro x;kernel_rfl
theorem FC:av tpr 6:=aq Tryz.func6 rfl (by decide)
theorem FJ:aF tpr 6 rG:=aI Ek (.cons Ba AV (.cons EB Es (.cons xM xB (.cons EC Et (.nil _))))) aK Tryz.func6
def E7:List (Nat×Ann):=[(2,⟨[(1,.val .str),(2,.val .str),(9,.val (.slice aR)),(10,.val tI),(11,.val tI)],[],[],bz _⟩),
 (200002,⟨[],[],[],fun _=>0⟩),
 (300004,⟨[(25,.val .bool)],[],[],fun _=>0⟩)]
def ug:aC:=⟨[.val (.slice aR),.val .str,.val .str],[.val tI],fun x=>zo x.1 x.2.1 x.2.2.1⟩
noncomputable def Ii:Cx:=⟨tpr,[],[]⟩
theorem GB:aV Ii E7 none Tryz.f24 ug:=by intro x;kernel_rfl
theorem ID:av tpr 24:=aq Tryz.func24 rfl (by decide)
theorem I2:aF tpr 24 ug:=aI GB (.nil _) aK Tryz.func24
def uf:aC:=⟨[.val (.slice aR),.val aR],[.val tI],fun x=>uF x.1 x.2.1⟩
noncomputable def Ih:Cx:=⟨tpr,[(24,ug)],[]⟩
theorem GA:aV Ih [] none Tryz.f8 uf:=by intro x;kernel_rfl
theorem IC:av tpr 8:=aq Tryz.func8 rfl (by decide)
theorem I1:aF tpr 8 uf:=aI GA (.cons I2 ID (.nil _)) aK Tryz.func8
def Ou:List (Nat×Ann):=[(2,⟨[(0,.val tI),(2,.ref 2 0),(3,.ref 3 0)],[(2,dh),(3,dh)],[],bz _⟩),
 (200002,⟨[(2,.ref 2 0),(3,.ref 3 0)],[(2,dh),(3,dh)],[],fun _=>0⟩)]
def Bp:aC:=⟨[.val tI],[.val br],fun x=>DX x.1⟩
noncomputable def Rb:Cx:=⟨tpr,[],[]⟩
theorem PT:aV Rb Ou none Tryz.f101 Bp:=by intro x;kernel_rfl
theorem LV:av tpr 101:=aq Tryz.func101 rfl (by decide)
theorem Me:aF tpr 101 Bp:=aI PT (.nil _) aK Tryz.func101
def Ge:List (Nat×Ann):=[(1,⟨[(1,.ref 1 0),(2,.ref 2 0)],[(1,iQ),(2,dh)],[],bz _⟩),
 (200001,⟨[(1,.ref 1 0),(2,.ref 2 0)],[(1,iQ),(2,dh)],[],fun _=>0⟩)]
def qZ:aC:=⟨[.val br],[.val br],fun x=>kj x.1⟩
noncomputable def Kx:Cx:=⟨tpr,[],[]⟩
theorem Iq:aV Kx Ge none Tryz.f129 qZ:=by intro x;kernel_rfl
theorem BL:av tpr 129:=aq Tryz.func129 rfl (by decide)
theorem BP:aF tpr 129 qZ:=aI Iq (.nil _) aK Tryz.func129
def Gd:List (Nat×Ann):=[(3,⟨[(3,.ref 3 0),(4,.ref 4 0),(5,.ref 5 0),(27,.val (.slice tI)),(28,.val tI),(29,.val tI)],[(3,iQ),(4,dh),(5,zN)],[.rowC 24 3 tI],bz _⟩),
 (6,⟨[(3,.ref 3 0),(4,.ref 4 0),(5,.ref 5 0),(6,.val tI),(7,.val tI),(27,.val (.slice tI)),(28,.val tI),(29,.val tI),(35,.val (.slice tI)),(36,.val tI),(37,.val tI)],[(3,iQ),(4,dh),(5,zN)],[.rowC 24 3 tI],bz _⟩),
 (14,⟨[(4,.ref 4 0),(5,.ref 5 0),(86,.val tI),(87,.val tI)],[(4,dh),(5,zN)],[.rowC 24 3 tI],bz _⟩),
 (200003,⟨[(4,.ref 4 0),(5,.ref 5 0)],[(4,dh),(5,zN)],[.rowC 24 3 tI],fun _=>0⟩),
 (200006,⟨[(3,.ref 3 0),(4,.ref 4 0),(5,.ref 5 0),(27,.val (.slice tI)),(28,.val tI),(29,.val tI)],[(3,iQ),(4,dh),(5,zN)],[.rowC 24 3 tI],fun _=>0⟩),
 (200014,⟨[(4,.ref 4 0),(5,.ref 5 0)],[(4,dh),(5,zN)],[.rowC 24 3 tI],fun _=>0⟩)]
def qY:aC:=⟨[.val br,.val br],[.val br],fun x=>pK x.1 x.2.1⟩
noncomputable def Kw:Cx:=⟨tpr,[(129,qZ)],[]⟩
theorem Ip:aV Kw Gd none Tryz.f100 qY:=by intro x;kernel_rfl
theorem BK:av tpr 100:=aq Tryz.func100 rfl (by decide)
theorem BO:aF tpr 100 qY:=aI Ip (.cons BP BL (.nil _)) aK Tryz.func100
def Km:List (Nat×Ann):=[(3,⟨[(2,.ref 2 0),(3,.ref 3 0),(5,.val tI),(6,.val tI)],[(2,dh),(3,iQ)],[],bz _⟩),
 (200003,⟨[(2,.ref 2 0),(3,.ref 3 0)],[(2,dh),(3,iQ)],[],fun _=>0⟩)]
def zx:aC:=⟨[.val tI],[.val br],fun x=>xT x.1⟩
noncomputable def MU:Cx:=⟨tpr,[(100,qY),(101,Bp)],[]⟩
theorem LB:aV MU Km none Tryz.f102 zx:=by intro x;kernel_rfl
theorem M9:av tpr 102:=aq Tryz.func102 rfl (by decide)
theorem Nk:aF tpr 102 zx:=aI LB (.cons BO BK (.cons Me LV (.nil _))) aK Tryz.func102
def FZ:aC:=⟨[.val bS,.val tI],[.val br],fun x=>HA x.1 x.2.1⟩
noncomputable def Ra:Cx:=⟨tpr,[(100,qY),(101,Bp),(102,zx)],[]⟩
theorem PS:aV Ra [] none Tryz.f52 FZ:=by intro x;kernel_rfl
theorem Rg:av tpr 52:=aq Tryz.func52 rfl (by decide)
theorem Rt:aF tpr 52 FZ:=aI PS (.cons BO BK (.cons Me LV (.cons Nk M9 (.nil _)))) aK Tryz.func52
def zw:aC:=⟨[.val br],[.val br],fun x=>Bh x.1⟩
noncomputable def MT:Cx:=⟨tpr,[],[]⟩
theorem LA:aV MT [] none Tryz.f99 zw:=by intro x;kernel_rfl
theorem M8:av tpr 99:=aq Tryz.func99 rfl (by decide)
theorem Nj:aF tpr 99 zw:=aI LA (.nil _) aK Tryz.func99
def Kn:List (Nat×Ann):=[(4,⟨[(0,.val (.slice tI)),(1,.val (.slice tI)),(5,.val tI)],[],[],bz _⟩),
 (200004,⟨[],[],[],fun _=>0⟩)]
def zz:aC:=⟨[.val (.slice tI),.val (.slice tI)],[.val tI],fun x=>Bi x.1 x.2.1⟩
noncomputable def MW:Cx:=⟨tpr,[],[]⟩
theorem LD:aV MW Kn none Tryz.f127 zz:=by intro x;kernel_rfl
theorem Nb:av tpr 127:=aq Tryz.func127 rfl (by decide)
theorem Nn:aF tpr 127 zz:=aI LD (.nil _) aK Tryz.func127
def zy:aC:=⟨[.val (.slice tI),.val tI],[.val tI],fun x=>tW x.1 x.2.1⟩
noncomputable def MV:Cx:=⟨tpr,[],[]⟩
theorem LC:aV MV [] none Tryz.f128 zy:=by intro x;kernel_rfl
theorem Na:av tpr 128:=aq Tryz.func128 rfl (by decide)
theorem Nl:aF tpr 128 zy:=aI LC (.nil _) aK Tryz.func128
def Lc:List (Nat×Ann):=[(7,⟨[(2,.ref 2 0),(3,.ref 3 0),(4,.ref 4 0),(5,.ref 5 0),(6,.val tI),(31,.val tI),(32,.val tI)],[(2,iQ),(3,iQ),(4,dh),(5,dh)],[],bz _⟩),
 (19,⟨[(2,.ref 2 0),(3,.ref 3 0),(4,.ref 4 0),(9,.ref 9 0),(10,.val tI),(70,.val tI),(71,.val tI)],[(2,iQ),(3,iQ),(4,dh),(9,dh)],[],bz _⟩),
 (100003,⟨[(2,.ref 2 0),(3,.ref 3 0),(4,.ref 4 0)],[(2,iQ),(3,iQ),(4,dh)],[],fun _=>0⟩),
 (100012,⟨[(2,.ref 2 0),(3,.ref 3 0),(4,.ref 4 0),(5,.ref 5 0),(6,.val tI),(8,.val tI),(31,.val tI),(32,.val tI)],[(2,iQ),(3,iQ),(4,dh),(5,dh)],[],fun _=>0⟩),
 (200007,⟨[(4,.ref 4 0),(5,.ref 5 0)],[(4,dh),(5,dh)],[],fun _=>0⟩),
 (200019,⟨[(4,.ref 4 0),(9,.ref 9 0)],[(4,dh),(9,dh)],[],fun _=>0⟩)]
def Bq:aC:=⟨[.val br,.val br],[.val br],fun x=>DY x.1 x.2.1⟩
noncomputable def OB:Cx:=⟨tpr,[(127,zz),(128,zy),(129,qZ)],[]⟩
theorem MZ:aV OB Lc none Tryz.f98 Bq:=by intro x;kernel_rfl
theorem OJ:av tpr 98:=aq Tryz.func98 rfl (by decide)
theorem O0:aF tpr 98 Bq:=aI MZ (.cons Nn Nb (.cons Nl Na (.cons BP BL (.nil _)))) aK Tryz.func98
def Br:aC:=⟨[.val br],[.val tI],fun x=>DZ x.1⟩
noncomputable def OC:Cx:=⟨tpr,[],[]⟩
theorem M0:aV OC [] none Tryz.f97 Br:=by intro x;kernel_rfl
theorem OK:av tpr 97:=aq Tryz.func97 rfl (by decide)
theorem O1:aF tpr 97 Br:=aI M0 (.nil _) aK Tryz.func97
def Dz:aC:=⟨[.val br,.val br],[.val tI],fun x=>HB x.1 x.2.1⟩
noncomputable def PR:Cx:=⟨tpr,[(97,Br),(98,Bq),(99,zw)],[]⟩
theorem OD:aV PR [] none Tryz.f51 Dz:=by intro x;kernel_rfl
theorem P7:av tpr 51:=aq Tryz.func51 rfl (by decide)
theorem Qz:aF tpr 51 Dz:=aI OD (.cons O1 OK (.cons O0 OJ (.cons Nj M8 (.nil _)))) aK Tryz.func51
def Bo:aC:=⟨[.val bS,.val bS],[.val tI],fun x=>Jb x.1 x.2.1⟩
noncomputable def OA:Cx:=⟨tpr,[(51,Dz),(52,FZ)],[]⟩
theorem MY:aV OA [] none Tryz.f25 Bo:=by intro x;kernel_rfl
theorem OI:av tpr 25:=aq Tryz.func25 rfl (by decide)
theorem OZ:aF tpr 25 Bo:=aI MY (.cons Qz P7 (.cons Rt Rg (.nil _))) aK Tryz.func25
def vY:aC:=⟨[.val bS,.val bS],[.val .bool],fun x=>sQ x.1 x.2.1⟩
noncomputable def Kv:Cx:=⟨tpr,[(25,Bo)],[]⟩
theorem Io:aV Kv [] none Tryz.f9 vY:=by intro x;kernel_rfl
theorem KE:av tpr 9:=aq Tryz.func9 rfl (by decide)
theorem KI:aF tpr 9 vY:=aI Io (.cons OZ OI (.nil _)) aK Tryz.func9
def uV:List (Nat×Ann):=[(9,⟨[(12,.val (.slice aR)),(53,.val (.slice aR)),(54,.val tI),(55,.val tI)],[],[],bz _⟩),
 (200009,⟨[],[],[],fun _=>0⟩),
 (300003,⟨[(8,.val .bool)],[],[],fun _=>0⟩)]
def n9:aC:=⟨[.val (.slice aR),.val (.slice aR),.val .str,.val tI],[.val .bool],fun x=>gq x.1 x.2.1 x.2.2.1 x.2.2.2.1⟩
noncomputable def wB:Cx:=⟨tpr,[(4,uc),(5,x7),(6,rG),(7,gQ),(8,uf),(9,vY)],[]⟩
theorem vJ:aV wB uV none Tryz.f3 n9:=by intro x;kernel_rfl
theorem wG:aF tpr 3 n9:=aI vJ (.cons IY IA (.cons Mc LU (.cons FJ FC (.cons rY rS (.cons I1 IC (.cons KI KE (.nil _))))))) aK Tryz.func3
end Go.Proofs.SeatU
end
