/-
  Each function that the law reaches is as its plain model says, a further part. No condition.
-/
import Derived.Test.YtilaijcbckgmmaaGreatDoorYy
import Derived.Test.YtilaijcbckgmmaaGreatDoorYv
set_option linter.all false
set_option maxRecDepth 100000
noncomputable section
namespace Go.Proofs.SeatU
open Go.Dn Go.Md Go.Proofs
def fe:List CK:=[.val .bool,.own 3 tI]
def Jl:List CK:=[.val .bool,.own 95 (.int .u32)]
def Cn:List CK:=[.val .bool,.rowR 24]
def vW:List CK:=[.val .bool,.val (.slice (.int .u32))]
def jZ:List CK:=[.val .bool,.val (.slice tI)]
def NZ:List CK:=[.val .str,.val .str,.val tI,.rowR 66832]
def vX:List CK:=[.val tI,.val tI]
def Ch:List (Nat×Ann):=[(16,⟨[(0,.val tI),(1,.val .str),(49,.val tI)],[],[],aT _⟩),
 (200016,⟨[],[],[],fun _=>0⟩)]
def qW:aB:=⟨[.val tI,.val .str],[.val .str,.val tI],fun x=>oW x.1 x.2.1⟩
noncomputable def Eu:Cx:=⟨tpr,[(59,rm),(87,pQ),(88,AY),(89,wT),(90,AZ),(91,vr),(92,nv)],[]⟩
theorem Db:aS Eu Ch none Tryz.f60 qW:=by intro x;kernel_rfl
theorem EF:av tpr 60:=ak Tryz.func60 rfl (by decide)
theorem EI:aJ tpr 60 qW:=aK Db (.cons BF By (.cons AJ Az (.cons IP IE (.cons DD Dp (.cons IQ IF (.cons AI Ay (.cons yO yE (.nil _)))))))) aL Tryz.func60
def og:aB:=⟨[.val .str,.val tI],[.val .str,.val tI],fun x=>oG x.1 x.2.1⟩
noncomputable def GS:Cx:=⟨tpr,[(57,xT),(58,lU),(59,rm),(60,qW),(61,tO)],[]⟩
theorem Fj:aS GS [] none Tryz.f21 og:=by intro x;kernel_rfl
theorem zF:av tpr 21:=ak Tryz.func21 rfl (by decide)
theorem zI:aJ tpr 21 og:=aK Fj (.cons LB Lg (.cons sV sQ (.cons BF By (.cons EI EF (.cons HA Hs (.nil _)))))) aL Tryz.func21
def GO:List (Nat×Ann):=[(13,⟨[(0,.val (.slice aq)),(3,.val .str),(4,.val tI),(15,.ref 15 0),(16,.own 53 aX),(17,.rowR 62),(63,.val (.slice aI)),(64,.val tI),(65,.val tI)],[(15,vW)],[.rowC 62 3 tI],aT _⟩),
 (25,⟨[(0,.val (.slice aq)),(3,.val .str),(4,.val tI),(17,.rowR 62),(21,.rowR 210192),(22,.own 9 .str),(99,.val tI),(100,.val tI)],[],[.rowC 62 3 tI,.rowC 210192 36 aq],aT _⟩),
 (33,⟨[(0,.val (.slice aq)),(17,.rowR 62),(21,.rowR 210192),(22,.val (.slice .str)),(119,.val (.slice .str)),(120,.val tI),(121,.val tI)],[],[.rowC 62 3 tI,.rowC 210192 36 aq],aT _⟩),
 (41,⟨[(17,.rowR 62),(21,.rowR 210192),(22,.val (.slice .str)),(136,.val tI),(137,.val tI)],[],[.rowC 62 3 tI,.rowC 210192 36 aq],aT _⟩),
 (46,⟨[(21,.own 36 aq),(152,.val (.slice .str)),(153,.val tI),(154,.val tI)],[],[],aT _⟩),
 (100017,⟨[(0,.val (.slice aq)),(3,.val .str),(4,.val tI),(15,.ref 15 0),(16,.own 53 aX),(17,.rowR 62),(19,.ref 19 0),(20,.val tI),(63,.val (.slice aI)),(64,.val tI),(65,.val tI)],[(15,vW),(19,[.val tI,.val .bool,.val (.slice (.int .u32))])],[.rowC 62 3 tI],fun _=>0⟩),
 (200013,⟨[(0,.val (.slice aq)),(3,.val .str),(4,.val tI),(16,.own 53 aX),(17,.rowR 62)],[],[.rowC 62 3 tI],fun _=>0⟩),
 (200025,⟨[(0,.val (.slice aq)),(17,.rowR 62),(21,.rowR 210192),(22,.own 9 .str)],[],[.rowC 62 3 tI,.rowC 210192 36 aq],fun _=>0⟩),
 (200033,⟨[(0,.val (.slice aq)),(17,.rowR 62),(21,.rowR 210192),(22,.val (.slice .str))],[],[.rowC 62 3 tI,.rowC 210192 36 aq],fun _=>0⟩),
 (200041,⟨[(21,.rowR 210192),(22,.val (.slice .str))],[],[.rowC 210192 36 aq],fun _=>0⟩),
 (200046,⟨[(21,.own 36 aq)],[],[],fun _=>0⟩)]
def wW:aB:=⟨[.val (.slice aq),.val (.slice cN),.val aR,.val .str,.val tI],[.row 36 aq,.val tI],fun x=>sg x.1 x.2.1 x.2.2.1 x.2.2.2.1 x.2.2.2.2.1⟩
noncomputable def Jt:Cx:=⟨tpr,[(12,pV),(13,vu),(14,wS),(15,ji),(16,jx),(18,jm),(19,nR),(20,nP),(21,og),(22,gJ),(24,nT)],[]⟩
theorem Iw:aS Jt GO none Tryz.f4 wW:=by intro x;kernel_rfl
theorem JV:av tpr 4:=ak Tryz.func4 rfl (by decide)
theorem Kg:aJ tpr 4 wW:=aK Iw (.cons DH Dt (.cons IT II (.cons Kb JR (.cons pI pE (.cons xg xd (.cons nY nX (.cons um ug (.cons B3 BX (.cons zI zF (.cons sW sS (.cons xh xe (.nil _)))))))))))) aL Tryz.func4
def A1:aB:=⟨[],[.val .bool],fun x=>BC ⟩
noncomputable def N2:Cx:=⟨tpr,[(21,og)],[]⟩
theorem M9:aS N2 [] none Tryz.f5 A1:=by intro x;kernel_rfl
theorem Om:av tpr 5:=ak Tryz.func5 rfl (by decide)
theorem OJ:aJ tpr 5 A1:=aK M9 (.cons zI zF (.nil _)) aL Tryz.func5
def GP:List (Nat×Ann):=[(2,⟨[(1,.val .str),(7,.val (.slice aq)),(8,.val tI),(9,.val tI)],[],[],aT _⟩),
 (200002,⟨[],[],[],fun _=>0⟩)]
def wX:aB:=⟨[.val (.slice aq),.val .str],[.val tI],fun x=>wJ x.1 x.2.1⟩
noncomputable def Ju:Cx:=⟨tpr,[],[]⟩
theorem Ix:aS Ju GP none Tryz.f31 wX:=by intro x;kernel_rfl
theorem JW:av tpr 31:=ak Tryz.func31 rfl (by decide)
theorem Kh:aJ tpr 31 wX:=aK Ix (.nil _) aL Tryz.func31
def F9:aB:=⟨[.val (.slice aq),.val .str],[.val tI],fun x=>Kt x.1 x.2.1⟩
noncomputable def SC:Cx:=⟨tpr,[(31,wX)],[]⟩
theorem Rt:aS SC [] none Tryz.f7 F9:=by intro x;kernel_rfl
theorem SS:av tpr 7:=ak Tryz.func7 rfl (by decide)
theorem Tr:aJ tpr 7 F9:=aK Rt (.cons Kh JW (.nil _)) aL Tryz.func7
def pT:aB:=⟨[.val fP,.val .str,.val .bool],[.val tI],fun x=>oa x.1 x.2.1 x.2.2.1⟩
noncomputable def C6:Cx:=⟨tpr,[(6,gf),(70,kD)],[]⟩
theorem Ct:aS C6 [] none Tryz.f33 pT:=by intro x;kernel_rfl
theorem Dr:av tpr 33:=ak Tryz.func33 rfl (by decide)
theorem DF:aJ tpr 33 pT:=aK Ct (.cons kM kK (.cons rT rL (.nil _))) aL Tryz.func33
def pS:aB:=⟨[.val tI,.val (.ptr fP),.val (.ptr .str)],[.val .bool],fun x=>tE x.1 x.2.1 x.2.2.1⟩
noncomputable def C5:Cx:=⟨tpr,[],[]⟩
theorem Cs:aS C5 [] none Tryz.f124 pS:=by intro x;kernel_rfl
theorem Dq:av tpr 124:=ak Tryz.func124 rfl (by decide)
theorem DE:aJ tpr 124 pS:=aK Cs (.nil _) aL Tryz.func124
def zR:List (Nat×Ann):=[(2,⟨[(0,.val (.slice tI)),(1,.val (.clo 124 (.pair (.ptr fP) (.ptr .str)))),(7,.val tI),(8,.val tI)],[],[],aT _⟩),
 (200002,⟨[],[],[],fun _=>0⟩)]
def mK:aB:=⟨[.val (.slice tI),.val (.clo 124 (.pair (.ptr fP) (.ptr .str)))],[.val tI],fun x=>pO x.1 x.2.1⟩
noncomputable def Bh:Cx:=⟨tpr,[(124,pS)],[]⟩
theorem As:aS Bh zR none Tryz.f151 mK:=by intro x;kernel_rfl
theorem Bp:av tpr 151:=ak Tryz.func151 rfl (by decide)
theorem Br:aJ tpr 151 mK:=aK As (.cons DE Dq (.nil _)) aL Tryz.func151
def kY:aB:=⟨[.val (.slice tI),.val (.clo 124 (.pair (.ptr fP) (.ptr .str)))],[.val .bool],fun x=>mH x.1 x.2.1⟩
noncomputable def zj:Cx:=⟨tpr,[(151,mK)],[]⟩
theorem yC:aS zj [] none Tryz.f123 kY:=by intro x;kernel_rfl
theorem zn:av tpr 123:=ak Tryz.func123 rfl (by decide)
theorem zw:aJ tpr 123 kY:=aK yC (.cons Br Bp (.nil _)) aL Tryz.func123
def sw:aB:=⟨[.val fP,.val tI,.val .str],[.val .bool],fun x=>rf x.1 x.2.1 x.2.2.1⟩
noncomputable def Fc:Cx:=⟨tpr,[(71,pR),(123,kY)],[]⟩
theorem EA:aS Fc [] none Tryz.f73 sw:=by intro x;kernel_rfl
theorem FB:av tpr 73:=ak Tryz.func73 rfl (by decide)
theorem FO:aJ tpr 73 sw:=aK EA (.cons AK AA (.cons zw zn (.nil _))) aL Tryz.func73
def tM:aB:=⟨[.val fP,.val tI,.val .str],[.val .bool],fun x=>lT x.1 x.2.1 x.2.2.1⟩
noncomputable def GW:Cx:=⟨tpr,[(73,sw)],[]⟩
theorem Fm:aS GW [] none Tryz.f34 tM:=by intro x;kernel_rfl
theorem Hq:av tpr 34:=ak Tryz.func34 rfl (by decide)
theorem Hy:aJ tpr 34 tM:=aK Fm (.cons FO FB (.nil _)) aL Tryz.func34
def GQ:List (Nat×Ann):=[(4,⟨[(2,.ref 2 0),(3,.ref 3 0),(4,.ref 4 0),(5,.ref 5 0),(6,.rowR 12),(7,.val (.slice (.int .u32))),(8,.val tI)],[(2,vW),(3,vW),(4,Jl),(5,Jl)],[.rowC 12 95 (.int .u32)],aT _⟩),
 (200004,⟨[(4,.ref 4 0),(5,.ref 5 0),(6,.rowR 12),(7,.val (.slice (.int .u32)))],[(4,Jl),(5,Jl)],[.rowC 12 95 (.int .u32)],fun _=>0⟩)]
def wZ:aB:=⟨[.val aX,.val aX],[.val aX,.val aX],fun x=>sE x.1 x.2.1⟩
noncomputable def Jv:Cx:=⟨tpr,[(51,kZ),(52,A2),(53,pW),(54,uV),(84,l9)],[]⟩
theorem Iy:aS Jv GQ none Tryz.f74 wZ:=by intro x;kernel_rfl
theorem JZ:av tpr 74:=ak Tryz.func74 rfl (by decide)
theorem Kk:aJ tpr 74 wZ:=aK Iy (.cons qw qs (.cons OM Oq (.cons AL AB (.cons Eo Ek (.cons vi vg (.nil _)))))) aL Tryz.func74
def EY:List (Nat×Ann):=[(5,⟨[(1,.val tI),(2,.ref 2 0),(6,.val (.int .u64)),(14,.val (.slice (.int .u32))),(15,.val tI),(16,.val tI)],[(2,vW)],[],aT _⟩),
 (200005,⟨[(1,.val tI),(2,.ref 2 0),(6,.val (.int .u64))],[(2,vW)],[],fun _=>0⟩)]
def vw:aB:=⟨[.val aX,.val tI],[.val tI,.val .bool],fun x=>uX x.1 x.2.1⟩
noncomputable def Im:Cx:=⟨tpr,[],[]⟩
theorem Hh:aS Im EY none Tryz.f125 vw:=by intro x;kernel_rfl
theorem IJ:av tpr 125:=ak Tryz.func125 rfl (by decide)
theorem IU:aJ tpr 125 vw:=aK Hh (.nil _) aL Tryz.func125
def xQ:aB:=⟨[.val aX,.val tI],[.val aR,.val tI],fun x=>tW x.1 x.2.1⟩
noncomputable def KU:Cx:=⟨tpr,[(125,vw)],[]⟩
theorem Jx:aS KU [] none Tryz.f76 xQ:=by intro x;kernel_rfl
theorem Lc:av tpr 76:=ak Tryz.func76 rfl (by decide)
theorem Lx:aJ tpr 76 xQ:=aK Jx (.cons IU IJ (.nil _)) aL Tryz.func76
def EU:List (Nat×Ann):=[(2,⟨[(1,.val tI),(2,.ref 2 0),(4,.ref 4 0),(6,.ref 6 0)],[(2,vW),(4,vX),(6,vW)],[],aT _⟩),
 (200002,⟨[(1,.val tI),(2,.ref 2 0),(4,.ref 4 0)],[(2,vW),(4,vX)],[],fun _=>0⟩)]
def vq:aB:=⟨[.val aX,.val tI],[.val aR,.val tI],fun x=>qj x.1 x.2.1⟩
noncomputable def Ig:Cx:=⟨tpr,[(19,nR),(50,oo),(74,wZ),(75,nx),(76,xQ)],[]⟩
theorem G7:aS Ig EU none Tryz.f36 vq:=by intro x;kernel_rfl
theorem ID:av tpr 36:=ak Tryz.func36 rfl (by decide)
theorem IN:aJ tpr 36 vq:=aK G7 (.cons um ug (.cons zK zH (.cons Kk JZ (.cons yS yH (.cons Lx Lc (.nil _)))))) aL Tryz.func36
def EV:List (Nat×Ann):=[(12,⟨[(1,.val (.slice cN)),(2,.val .str),(3,.ref 3 0),(6,.ref 6 0),(11,.own 36 aq),(36,.val (.slice aq)),(37,.val tI),(38,.val tI)],[(3,[.val .str,.val .str,.val tI,.val (.slice aq)]),(6,vX)],[],aT _⟩),
 (200012,⟨[(1,.val (.slice cN)),(6,.ref 6 0),(11,.own 36 aq)],[(6,vX)],[],fun _=>0⟩)]
def vt:aB:=⟨[.val fP,.val (.slice cN),.val .str],[.val aR,.val tI],fun x=>uK x.1 x.2.1 x.2.2.1⟩
noncomputable def Ij:Cx:=⟨tpr,[(6,gf),(32,kT),(33,pT),(34,tM),(35,om),(36,vq)],[]⟩
theorem He:aS Ij EV none Tryz.f8 vt:=by intro x;kernel_rfl
theorem IG:av tpr 8:=ak Tryz.func8 rfl (by decide)
theorem IS:aJ tpr 8 vt:=aK He (.cons kM kK (.cons vL vJ (.cons DF Dr (.cons Hy Hq (.cons zJ zG (.cons IN ID (.nil _))))))) aL Tryz.func8
def Rm:List (Nat×Ann):=[(2,⟨[(0,.val tI),(2,.ref 2 0),(3,.ref 3 0)],[(2,fe),(3,fe)],[],aT _⟩),
 (200002,⟨[(2,.ref 2 0),(3,.ref 3 0)],[(2,fe),(3,fe)],[],fun _=>0⟩)]
def DX:aB:=⟨[.val tI],[.val bg],fun x=>GF x.1⟩
noncomputable def T4:Cx:=⟨tpr,[],[]⟩
theorem SF:aS T4 Rm none Tryz.f81 DX:=by intro x;kernel_rfl
theorem Oo:av tpr 81:=ak Tryz.func81 rfl (by decide)
theorem OL:aJ tpr 81 DX:=aK SF (.nil _) aL Tryz.func81
def Jf:List (Nat×Ann):=[(1,⟨[(1,.ref 1 0),(2,.ref 2 0)],[(1,jZ),(2,fe)],[],aT _⟩),
 (200001,⟨[(1,.ref 1 0),(2,.ref 2 0)],[(1,jZ),(2,fe)],[],fun _=>0⟩)]
def uU:aB:=⟨[.val bg],[.val bg],fun x=>nu x.1⟩
noncomputable def M5:Cx:=⟨tpr,[],[]⟩
theorem K5:aS M5 Jf none Tryz.f79 uU:=by intro x;kernel_rfl
theorem Ej:av tpr 79:=ak Tryz.func79 rfl (by decide)
theorem En:aJ tpr 79 uU:=aK K5 (.nil _) aL Tryz.func79
def Je:List (Nat×Ann):=[(3,⟨[(3,.ref 3 0),(4,.ref 4 0),(5,.ref 5 0),(27,.val (.slice tI)),(28,.val tI),(29,.val tI)],[(3,jZ),(4,fe),(5,Cn)],[.rowC 24 3 tI],aT _⟩),
 (6,⟨[(3,.ref 3 0),(4,.ref 4 0),(5,.ref 5 0),(6,.val tI),(7,.val tI),(27,.val (.slice tI)),(28,.val tI),(29,.val tI),(35,.val (.slice tI)),(36,.val tI),(37,.val tI)],[(3,jZ),(4,fe),(5,Cn)],[.rowC 24 3 tI],aT _⟩),
 (14,⟨[(4,.ref 4 0),(5,.ref 5 0),(86,.val tI),(87,.val tI)],[(4,fe),(5,Cn)],[.rowC 24 3 tI],aT _⟩),
 (200003,⟨[(4,.ref 4 0),(5,.ref 5 0)],[(4,fe),(5,Cn)],[.rowC 24 3 tI],fun _=>0⟩),
 (200006,⟨[(3,.ref 3 0),(4,.ref 4 0),(5,.ref 5 0),(27,.val (.slice tI)),(28,.val tI),(29,.val tI)],[(3,jZ),(4,fe),(5,Cn)],[.rowC 24 3 tI],fun _=>0⟩),
 (200014,⟨[(4,.ref 4 0),(5,.ref 5 0)],[(4,fe),(5,Cn)],[.rowC 24 3 tI],fun _=>0⟩)]
def uT:aB:=⟨[.val bg,.val bg],[.val bg],fun x=>s7 x.1 x.2.1⟩
noncomputable def M4:Cx:=⟨tpr,[(79,uU)],[]⟩
theorem K4:aS M4 Je none Tryz.f80 uT:=by intro x;kernel_rfl
theorem Ei:av tpr 80:=ak Tryz.func80 rfl (by decide)
theorem Em:aJ tpr 80 uT:=aK K4 (.cons En Ej (.nil _)) aL Tryz.func80
def MV:List (Nat×Ann):=[(3,⟨[(2,.ref 2 0),(3,.ref 3 0),(5,.val tI),(6,.val tI)],[(2,fe),(3,jZ)],[],aT _⟩),
 (200003,⟨[(2,.ref 2 0),(3,.ref 3 0)],[(2,fe),(3,jZ)],[],fun _=>0⟩)]
def Cb:aB:=⟨[.val tI],[.val bg],fun x=>AQ x.1⟩
noncomputable def PD:Cx:=⟨tpr,[(80,uT),(81,DX)],[]⟩
theorem N7:aS PD MV none Tryz.f82 Cb:=by intro x;kernel_rfl
theorem PW:av tpr 82:=ak Tryz.func82 rfl (by decide)
theorem P9:aJ tpr 82 Cb:=aK N7 (.cons Em Ei (.cons OL Oo (.nil _))) aL Tryz.func82
def DW:aB:=⟨[.val aR,.val tI],[.val bg],fun x=>BH x.1 x.2.1⟩
noncomputable def T3:Cx:=⟨tpr,[(80,uT),(81,DX),(82,Cb)],[]⟩
theorem SE:aS T3 [] none Tryz.f41 DW:=by intro x;kernel_rfl
theorem On:av tpr 41:=ak Tryz.func41 rfl (by decide)
theorem OK:aJ tpr 41 DW:=aK SE (.cons Em Ei (.cons OL Oo (.cons P9 PW (.nil _)))) aL Tryz.func41
def Ca:aB:=⟨[.val bg],[.val bg],fun x=>DO x.1⟩
noncomputable def PC:Cx:=⟨tpr,[],[]⟩
theorem N6:aS PC [] none Tryz.f40 Ca:=by intro x;kernel_rfl
theorem PV:av tpr 40:=ak Tryz.func40 rfl (by decide)
theorem P8:aJ tpr 40 Ca:=aK N6 (.nil _) aL Tryz.func40
def MW:List (Nat×Ann):=[(4,⟨[(0,.val (.slice tI)),(1,.val (.slice tI)),(5,.val tI)],[],[],aT _⟩),
 (200004,⟨[],[],[],fun _=>0⟩)]
def Cd:aB:=⟨[.val (.slice tI),.val (.slice tI)],[.val tI],fun x=>DQ x.1 x.2.1⟩
noncomputable def PF:Cx:=⟨tpr,[],[]⟩
theorem N9:aS PF MW none Tryz.f77 Cd:=by intro x;kernel_rfl
theorem PY:av tpr 77:=ak Tryz.func77 rfl (by decide)
theorem Qb:aJ tpr 77 Cd:=aK N9 (.nil _) aL Tryz.func77
def Cc:aB:=⟨[.val (.slice tI),.val tI],[.val tI],fun x=>xN x.1 x.2.1⟩
noncomputable def PE:Cx:=⟨tpr,[],[]⟩
theorem N8:aS PE [] none Tryz.f78 Cc:=by intro x;kernel_rfl
theorem PX:av tpr 78:=ak Tryz.func78 rfl (by decide)
theorem Qa:aJ tpr 78 Cc:=aK N8 (.nil _) aL Tryz.func78
def NP:List (Nat×Ann):=[(7,⟨[(2,.ref 2 0),(3,.ref 3 0),(4,.ref 4 0),(5,.ref 5 0),(6,.val tI),(31,.val tI),(32,.val tI)],[(2,jZ),(3,jZ),(4,fe),(5,fe)],[],aT _⟩),
 (19,⟨[(2,.ref 2 0),(3,.ref 3 0),(4,.ref 4 0),(9,.ref 9 0),(10,.val tI),(70,.val tI),(71,.val tI)],[(2,jZ),(3,jZ),(4,fe),(9,fe)],[],aT _⟩),
 (100003,⟨[(2,.ref 2 0),(3,.ref 3 0),(4,.ref 4 0)],[(2,jZ),(3,jZ),(4,fe)],[],fun _=>0⟩),
 (100012,⟨[(2,.ref 2 0),(3,.ref 3 0),(4,.ref 4 0),(5,.ref 5 0),(6,.val tI),(8,.val tI),(31,.val tI),(32,.val tI)],[(2,jZ),(3,jZ),(4,fe),(5,fe)],[],fun _=>0⟩),
 (200007,⟨[(4,.ref 4 0),(5,.ref 5 0)],[(4,fe),(5,fe)],[],fun _=>0⟩),
 (200019,⟨[(4,.ref 4 0),(9,.ref 9 0)],[(4,fe),(9,fe)],[],fun _=>0⟩)]
def z6:aB:=⟨[.val bg,.val bg],[.val bg],fun x=>Ak x.1 x.2.1⟩
noncomputable def Rr:Cx:=⟨tpr,[(77,Cd),(78,Cc),(79,uU)],[]⟩
theorem PJ:aS Rr NP none Tryz.f39 z6:=by intro x;kernel_rfl
theorem JX:av tpr 39:=ak Tryz.func39 rfl (by decide)
theorem Ki:aJ tpr 39 z6:=aK PJ (.cons Qb PY (.cons Qa PX (.cons En Ej (.nil _)))) aL Tryz.func39
def DY:aB:=⟨[.val bg],[.val tI],fun x=>GG x.1⟩
noncomputable def Rs:Cx:=⟨tpr,[],[]⟩
theorem PK:aS Rs [] none Tryz.f38 DY:=by intro x;kernel_rfl
theorem RA:av tpr 38:=ak Tryz.func38 rfl (by decide)
theorem RO:aJ tpr 38 DY:=aK PK (.nil _) aL Tryz.func38
def BK:aB:=⟨[.val bg,.val bg],[.val tI],fun x=>F3 x.1 x.2.1⟩
noncomputable def SD:Cx:=⟨tpr,[(38,DY),(39,z6),(40,Ca)],[]⟩
theorem Ru:aS SD [] none Tryz.f10 BK:=by intro x;kernel_rfl
theorem Mn:av tpr 10:=ak Tryz.func10 rfl (by decide)
theorem MA:aJ tpr 10 BK:=aK Ru (.cons RO RA (.cons Ki JX (.cons P8 PV (.nil _)))) aL Tryz.func10
def DV:aB:=⟨[.val aR,.val aR],[.val tI],fun x=>LL x.1 x.2.1⟩
noncomputable def Rq:Cx:=⟨tpr,[(10,BK),(41,DW)],[]⟩
theorem PI:aS Rq [] none Tryz.f37 DV:=by intro x;kernel_rfl
theorem Rz:av tpr 37:=ak Tryz.func37 rfl (by decide)
theorem RN:aJ tpr 37 DV:=aK PI (.cons MA Mn (.cons OK On (.nil _))) aL Tryz.func37
def zB:aB:=⟨[.val aR,.val aR],[.val .bool],fun x=>wI x.1 x.2.1⟩
noncomputable def M3:Cx:=⟨tpr,[(37,DV)],[]⟩
theorem K3:aS M3 [] none Tryz.f9 zB:=by intro x;kernel_rfl
theorem Nb:av tpr 9:=ak Tryz.func9 rfl (by decide)
theorem Nf:aJ tpr 9 zB:=aK K3 (.cons RN Rz (.nil _)) aL Tryz.func9
def MU:List (Nat×Ann):=[(3,⟨[(2,.ref 2 0),(3,.ref 3 0),(6,.val (.slice aR)),(7,.val tI),(8,.val tI)],[(2,fe),(3,jZ)],[],aT _⟩),
 (200003,⟨[(2,.ref 2 0),(3,.ref 3 0)],[(2,fe),(3,jZ)],[],fun _=>0⟩)]
def B9:aB:=⟨[.val (.slice aR)],[.val bg],fun x=>vm x.1⟩
noncomputable def PB:Cx:=⟨tpr,[(39,z6),(41,DW)],[]⟩
theorem N5:aS PB MU none Tryz.f11 B9:=by intro x;kernel_rfl
theorem PU:av tpr 11:=ak Tryz.func11 rfl (by decide)
theorem P7:aJ tpr 11 B9:=aK N5 (.cons Ki JX (.cons OK On (.nil _))) aL Tryz.func11
def w9:List (Nat×Ann):=[(9,⟨[(0,.val (.slice aq)),(1,.val (.slice cN)),(7,.ref 7 0),(13,.ref 13 0),(14,.own 25 aR),(47,.rowR 66832),(48,.val tI),(49,.val tI)],[(7,vX),(13,NZ)],[.rowC 66832 36 aq],aT _⟩),
 (20,⟨[(0,.val (.slice aq)),(1,.val (.slice cN)),(7,.ref 7 0),(13,.ref 13 0),(14,.rowR 4000),(17,.ref 17 0),(47,.rowR 66832),(48,.val tI),(49,.val tI),(83,.rowR 4000),(84,.val tI),(85,.val tI)],[(7,vX),(13,NZ),(17,vX)],[.rowC 4000 25 aR,.rowC 66832 36 aq],aT _⟩),
 (200009,⟨[],[],[],fun _=>0⟩),
 (200020,⟨[(0,.val (.slice aq)),(1,.val (.slice cN)),(7,.ref 7 0),(13,.ref 13 0),(14,.own 25 aR),(17,.ref 17 0),(47,.rowR 66832),(48,.val tI),(49,.val tI)],[(7,vX),(13,NZ),(17,vX)],[.rowC 66832 36 aq],fun _=>0⟩)]
def oS:aB:=⟨[.val (.slice aq),.val (.slice cN),.val aR,.val .str,.val tI],[.val .bool],fun x=>jc x.1 x.2.1 x.2.2.1 x.2.2.2.1 x.2.2.2.2.1⟩
noncomputable def yz:Cx:=⟨tpr,[(4,wW),(5,A1),(6,gf),(7,F9),(8,vt),(9,zB),(10,BK),(11,B9)],[]⟩
theorem xu:aS yz w9 none Tryz.f3 oS:=by intro x;kernel_rfl
theorem yP:aJ tpr 3 oS:=aK xu (.cons Kg JV (.cons OJ Om (.cons kM kK (.cons Tr SS (.cons IS IG (.cons Nf Nb (.cons MA Mn (.cons P7 PU (.nil _))))))))) aL Tryz.func3
end Go.Proofs.SeatU
end
