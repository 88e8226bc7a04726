/-
  Each function that the law reaches is as its plain model says, a further part. No condition.
-/
import Derived.Test.YtfeonoiibclkiaaGreatDoorYy
import Derived.Test.YtfeonoiibclkiaaGreatDoorYx
set_option linter.all false
set_option maxRecDepth 100000
noncomputable section
namespace Go.Proofs.SeatU
open Go.Dn Go.Md Go.Proofs
def c9:List CK:=[.val .bool,.own 3 tI]
def zh:List CK:=[.val .bool,.rowR 24]
def dU:List CK:=[.val .bool,.val (.slice tI)]
def rI:List CK:=[.val .str,.val .str,.val tI,.val (.slice bQ)]
def Oo:List CK:=[.val .str,.val .str,.val tI,.val tI,.val (.slice fO)]
def td:aA:=⟨[.val aD],[.val cL,.val tI],fun x=>tW x.1⟩
noncomputable def G9:Cx:=⟨tpr,[(63,qU)],[]⟩
theorem FR:aW G9 [] none Tryz.f37 td:=by intro x;kernel_rfl
theorem Hz:av tpr 37:=aq Tryz.func37 rfl (by decide)
theorem HR:aG tpr 37 td:=aH FR (.cons E0 ER (.nil _)) aJ Tryz.func37
def Bo:List (Nat×Ann):=[(4,⟨[(0,.mapR 10250000),(4,.own 62 eH),(13,.rowR 12),(14,.val tI),(15,.val tI)],[],[.rowC 12 54 aI,.mapC 10250000 aI aD],bz _⟩),
 (200004,⟨[(4,.own 62 eH)],[],[.mapC 10250000 aI aD],fun _=>0⟩)]
def pz:aA:=⟨[.map aI aD],[.row 62 eH,.val tI],fun x=>oN x.1⟩
noncomputable def Dx:Cx:=⟨tpr,[(37,td)],[(32,OK),(33,OL)]⟩
theorem Cd:aW Dx Bo none Tryz.f15 pz:=by intro x;kernel_rfl
theorem DN:av tpr 15:=aq Tryz.func15 rfl (by decide)
theorem DV:aG tpr 15 pz:=aH Cd (.Ql Rk Ri (.Ql Rl Rj (.cons HR Hz (.nil _)))) aJ Tryz.func15
def BO:List (Nat×Ann):=[(6,⟨[(1,.val .str),(2,.ref 2 0),(7,.mapR 18),(20,.val (.slice bQ)),(21,.val tI),(22,.val tI)],[(2,rI)],[.mapC 18 aI aD],bz _⟩),
 (10,⟨[(1,.val .str),(2,.ref 2 0),(7,.mapR 18),(20,.val (.slice bQ)),(21,.val tI),(22,.val tI),(33,.val (.slice fO)),(34,.val tI),(35,.val tI)],[(2,rI)],[.mapC 18 aI aD],bz _⟩),
 (200006,⟨[(7,.mapR 18)],[],[.mapC 18 aI aD],fun _=>0⟩),
 (200010,⟨[(1,.val .str),(2,.ref 2 0),(7,.mapR 18),(20,.val (.slice bQ)),(21,.val tI),(22,.val tI)],[(2,rI)],[.mapC 18 aI aD],fun _=>0⟩)]
def qX:aA:=⟨[.val bU,.val .str],[.val (.slice eH),.val tI],fun x=>jF x.1 x.2.1⟩
noncomputable def EB:Cx:=⟨tpr,[(12,fG),(13,pq),(14,iX),(15,pz)],[]⟩
theorem DE:aW EB BO none Tryz.f4 qX:=by intro x;kernel_rfl
theorem EV:av tpr 4:=aq Tryz.func4 rfl (by decide)
theorem E4:aG tpr 4 qX:=aH DE (.cons lX lT (.cons DU DM (.cons wY wQ (.cons DV DN (.nil _))))) aJ Tryz.func4
def Es:List (Nat×Ann):=[(5,⟨[(4,.val tI),(15,.val tI),(16,.val tI)],[],[],bz _⟩),
 (200005,⟨[(4,.val tI)],[],[],fun _=>0⟩)]
def tc:aA:=⟨[.val .str],[.val tI,.val .bool],fun x=>Eg x.1⟩
noncomputable def G8:Cx:=⟨tpr,[(64,nD)],[]⟩
theorem FQ:aW G8 Es none Tryz.f38 tc:=by intro x;kernel_rfl
theorem Hy:av tpr 38:=aq Tryz.func38 rfl (by decide)
theorem HQ:aG tpr 38 tc:=aH FQ (.cons yo yg (.nil _)) aJ Tryz.func38
def y7:List (Nat×Ann):=[(16,⟨[(0,.val tI),(1,.val .str),(49,.val tI)],[],[],bz _⟩),
 (200016,⟨[],[],[],fun _=>0⟩)]
def nu:aA:=⟨[.val tI,.val .str],[.val .str,.val tI],fun x=>wA x.1 x.2.1⟩
noncomputable def Bp:Cx:=⟨tpr,[(40,nE),(66,mh),(67,xz),(68,sg),(69,xA),(70,qW),(71,kg)],[]⟩
theorem Ad:aW Bp y7 none Tryz.f41 nu:=by intro x;kernel_rfl
theorem Bz:av tpr 41:=aq Tryz.func41 rfl (by decide)
theorem BC:aG tpr 41 nu:=aH Ad (.cons yq yh (.cons wX wP (.cons E2 ET (.cons AD Ao (.cons E3 EU (.cons wW wO (.cons uG uu (.nil _)))))))) aJ Tryz.func41
def pn:aA:=⟨[.val .str,.val tI],[.val .str,.val tI],fun x=>zF x.1 x.2.1⟩
noncomputable def Dv:Cx:=⟨tpr,[(38,tc),(39,iK),(40,nE),(41,nu),(42,pF)],[]⟩
theorem Cb:aW Dv [] none Tryz.f16 pn:=by intro x;kernel_rfl
theorem DL:av tpr 16:=aq Tryz.func16 rfl (by decide)
theorem DT:aG tpr 16 pn:=aH Cb (.cons HQ Hy (.cons oJ oE (.cons yq yh (.cons BC Bz (.cons DX DP (.nil _)))))) aJ Tryz.func16
def xC:aA:=⟨[],[.val .bool],fun x=>uB ⟩
noncomputable def Kn:Cx:=⟨tpr,[(16,pn)],[]⟩
theorem Jw:aW Kn [] none Tryz.f5 xC:=by intro x;kernel_rfl
theorem KH:av tpr 5:=aq Tryz.func5 rfl (by decide)
theorem K5:aG tpr 5 xC:=aH Jw (.cons DT DL (.nil _)) aJ Tryz.func5
def Nl:List (Nat×Ann):=[(2,⟨[(0,.val tI),(2,.ref 2 0),(3,.ref 3 0)],[(2,c9),(3,c9)],[],bz _⟩),
 (200002,⟨[(2,.ref 2 0),(3,.ref 3 0)],[(2,c9),(3,c9)],[],fun _=>0⟩)]
def AR:aA:=⟨[.val tI],[.val aU],fun x=>Di x.1⟩
noncomputable def PK:Cx:=⟨tpr,[],[]⟩
theorem Ow:aW PK Nl none Tryz.f79 AR:=by intro x;kernel_rfl
theorem KK:av tpr 79:=aq Tryz.func79 rfl (by decide)
theorem K8:aG tpr 79 AR:=aH Ow (.nil _) aJ Tryz.func79
def FA:List (Nat×Ann):=[(1,⟨[(1,.ref 1 0),(2,.ref 2 0)],[(1,dU),(2,c9)],[],bz _⟩),
 (200001,⟨[(1,.ref 1 0),(2,.ref 2 0)],[(1,dU),(2,c9)],[],fun _=>0⟩)]
def qA:aA:=⟨[.val aU],[.val aU],fun x=>jZ x.1⟩
noncomputable def Js:Cx:=⟨tpr,[],[]⟩
theorem Hj:aW Js FA none Tryz.f19 qA:=by intro x;kernel_rfl
theorem Ba:av tpr 19:=aq Tryz.func19 rfl (by decide)
theorem Bh:aG tpr 19 qA:=aH Hj (.nil _) aJ Tryz.func19
def Fy:List (Nat×Ann):=[(3,⟨[(3,.ref 3 0),(4,.ref 4 0),(5,.ref 5 0),(27,.val (.slice tI)),(28,.val tI),(29,.val tI)],[(3,dU),(4,c9),(5,zh)],[.rowC 24 3 tI],bz _⟩),
 (6,⟨[(3,.ref 3 0),(4,.ref 4 0),(5,.ref 5 0),(6,.val tI),(7,.val tI),(27,.val (.slice tI)),(28,.val tI),(29,.val tI),(35,.val (.slice tI)),(36,.val tI),(37,.val tI)],[(3,dU),(4,c9),(5,zh)],[.rowC 24 3 tI],bz _⟩),
 (14,⟨[(4,.ref 4 0),(5,.ref 5 0),(86,.val tI),(87,.val tI)],[(4,c9),(5,zh)],[.rowC 24 3 tI],bz _⟩),
 (200003,⟨[(4,.ref 4 0),(5,.ref 5 0)],[(4,c9),(5,zh)],[.rowC 24 3 tI],fun _=>0⟩),
 (200006,⟨[(3,.ref 3 0),(4,.ref 4 0),(5,.ref 5 0),(27,.val (.slice tI)),(28,.val tI),(29,.val tI)],[(3,dU),(4,c9),(5,zh)],[.rowC 24 3 tI],fun _=>0⟩),
 (200014,⟨[(4,.ref 4 0),(5,.ref 5 0)],[(4,c9),(5,zh)],[.rowC 24 3 tI],fun _=>0⟩)]
def qz:aA:=⟨[.val aU,.val aU],[.val aU],fun x=>oP x.1 x.2.1⟩
noncomputable def Jr:Cx:=⟨tpr,[(19,qA)],[]⟩
theorem Hi:aW Jr Fy none Tryz.f78 qz:=by intro x;kernel_rfl
theorem A9:av tpr 78:=aq Tryz.func78 rfl (by decide)
theorem Bg:aG tpr 78 qz:=aH Hi (.cons Bh Ba (.nil _)) aJ Tryz.func78
def Ji:List (Nat×Ann):=[(3,⟨[(2,.ref 2 0),(3,.ref 3 0),(5,.val tI),(6,.val tI)],[(2,c9),(3,dU)],[],bz _⟩),
 (200003,⟨[(2,.ref 2 0),(3,.ref 3 0)],[(2,c9),(3,dU)],[],fun _=>0⟩)]
def yU:aA:=⟨[.val tI],[.val aU],fun x=>xg x.1⟩
noncomputable def LQ:Cx:=⟨tpr,[(78,qz),(79,AR)],[]⟩
theorem Kt:aW LQ Ji none Tryz.f80 yU:=by intro x;kernel_rfl
theorem L3:av tpr 80:=aq Tryz.func80 rfl (by decide)
theorem Mc:aG tpr 80 yU:=aH Kt (.cons Bg A9 (.cons K8 KK (.nil _))) aJ Tryz.func80
def Fk:aA:=⟨[.val cL,.val tI],[.val aU],fun x=>JZ x.1 x.2.1⟩
noncomputable def PJ:Cx:=⟨tpr,[(78,qz),(79,AR),(80,yU)],[]⟩
theorem Ov:aW PJ [] none Tryz.f43 Fk:=by intro x;kernel_rfl
theorem PR:av tpr 43:=aq Tryz.func43 rfl (by decide)
theorem P5:aG tpr 43 Fk:=aH Ov (.cons Bg A9 (.cons K8 KK (.cons Mc L3 (.nil _)))) aJ Tryz.func43
def xE:aA:=⟨[.val cL],[.val aU],fun x=>yt x.1⟩
noncomputable def Kp:Cx:=⟨tpr,[(43,Fk)],[]⟩
theorem Jy:aW Kp [] none Tryz.f20 xE:=by intro x;kernel_rfl
theorem KJ:av tpr 20:=aq Tryz.func20 rfl (by decide)
theorem K7:aG tpr 20 xE:=aH Jy (.cons P5 PR (.nil _)) aJ Tryz.func20
def Jj:List (Nat×Ann):=[(4,⟨[(0,.val (.slice tI)),(1,.val (.slice tI)),(5,.val tI)],[],[],bz _⟩),
 (200004,⟨[],[],[],fun _=>0⟩)]
def yW:aA:=⟨[.val (.slice tI),.val (.slice tI)],[.val tI],fun x=>AM x.1 x.2.1⟩
noncomputable def LS:Cx:=⟨tpr,[],[]⟩
theorem Kv:aW LS Jj none Tryz.f17 yW:=by intro x;kernel_rfl
theorem L5:av tpr 17:=aq Tryz.func17 rfl (by decide)
theorem Mf:aG tpr 17 yW:=aH Kv (.nil _) aJ Tryz.func17
def yV:aA:=⟨[.val (.slice tI),.val tI],[.val tI],fun x=>sZ x.1 x.2.1⟩
noncomputable def LR:Cx:=⟨tpr,[],[]⟩
theorem Ku:aW LR [] none Tryz.f18 yV:=by intro x;kernel_rfl
theorem L4:av tpr 18:=aq Tryz.func18 rfl (by decide)
theorem Me:aG tpr 18 yV:=aH Ku (.nil _) aJ Tryz.func18
def J9:List (Nat×Ann):=[(7,⟨[(2,.ref 2 0),(3,.ref 3 0),(4,.ref 4 0),(5,.ref 5 0),(6,.val tI),(31,.val tI),(32,.val tI)],[(2,dU),(3,dU),(4,c9),(5,c9)],[],bz _⟩),
 (19,⟨[(2,.ref 2 0),(3,.ref 3 0),(4,.ref 4 0),(9,.ref 9 0),(10,.val tI),(70,.val tI),(71,.val tI)],[(2,dU),(3,dU),(4,c9),(9,c9)],[],bz _⟩),
 (100003,⟨[(2,.ref 2 0),(3,.ref 3 0),(4,.ref 4 0)],[(2,dU),(3,dU),(4,c9)],[],fun _=>0⟩),
 (100012,⟨[(2,.ref 2 0),(3,.ref 3 0),(4,.ref 4 0),(5,.ref 5 0),(6,.val tI),(8,.val tI),(31,.val tI),(32,.val tI)],[(2,dU),(3,dU),(4,c9),(5,c9)],[],fun _=>0⟩),
 (200007,⟨[(4,.ref 4 0),(5,.ref 5 0)],[(4,c9),(5,c9)],[],fun _=>0⟩),
 (200019,⟨[(4,.ref 4 0),(9,.ref 9 0)],[(4,c9),(9,c9)],[],fun _=>0⟩)]
def sk:aA:=⟨[.val aU,.val aU],[.val aU],fun x=>wm x.1 x.2.1⟩
noncomputable def Nq:Cx:=⟨tpr,[(17,yW),(18,yV),(19,qA)],[]⟩
theorem LV:aW Nq J9 none Tryz.f6 sk:=by intro x;kernel_rfl
theorem Ar:av tpr 6:=aq Tryz.func6 rfl (by decide)
theorem AG:aG tpr 6 sk:=aH LV (.cons Mf L5 (.cons Me L4 (.cons Bh Ba (.nil _)))) aJ Tryz.func6
def GU:List (Nat×Ann):=[(3,⟨[(2,.ref 2 0),(3,.ref 3 0),(6,.val (.slice eH)),(7,.val tI),(8,.val tI)],[(2,c9),(3,dU)],[],bz _⟩),
 (200003,⟨[(2,.ref 2 0),(3,.ref 3 0)],[(2,c9),(3,dU)],[],fun _=>0⟩)]
def xD:aA:=⟨[.val (.slice eH)],[.val aU],fun x=>uU x.1⟩
noncomputable def Ko:Cx:=⟨tpr,[(6,sk),(20,xE)],[]⟩
theorem Jx:aW Ko GU none Tryz.f7 xD:=by intro x;kernel_rfl
theorem KI:av tpr 7:=aq Tryz.func7 rfl (by decide)
theorem K6:aG tpr 7 xD:=aH Jx (.cons AG Ar (.cons K7 KJ (.nil _))) aJ Tryz.func7
def u6:List (Nat×Ann):=[(1,⟨[(0,.rowR 10250000),(2,.val tI),(3,.val tI)],[],[.rowC 10250000 9 .str],bz _⟩),
 (200001,⟨[],[],[.rowC 10250000 9 .str],fun _=>0⟩)]
def iY:aA:=⟨[.mrow 9 .str],[],fun x=>gQ x.1⟩
noncomputable def wH:Cx:=⟨tpr,[],[]⟩
theorem vG:aW wH u6 none Tryz.f23 iY:=by intro x;kernel_rfl
theorem wR:av tpr 23:=aq Tryz.func23 rfl (by decide)
theorem wZ:aG tpr 23 iY:=aH vG (.nil _) aJ Tryz.func23
def Er:List (Nat×Ann):=[(8,⟨[(2,.ref 2 0),(9,.own 9 .str),(34,.val (.slice tI)),(35,.val tI),(36,.val tI)],[(2,rI)],[],bz _⟩),
 (200008,⟨[(9,.own 9 .str)],[],[],fun _=>0⟩)]
def s9:aA:=⟨[.val bU,.val .str],[.val (.slice .str),.val tI],fun x=>pV x.1 x.2.1⟩
noncomputable def G7:Cx:=⟨tpr,[(12,fG),(21,eZ),(22,iW),(23,iY)],[]⟩
theorem FP:aW G7 Er none Tryz.f8 s9:=by intro x;kernel_rfl
theorem Hw:av tpr 8:=aq Tryz.func8 rfl (by decide)
theorem HP:aG tpr 8 s9:=aH FP (.cons lX lT (.cons jT jP (.cons qM qK (.cons wZ wR (.nil _))))) aJ Tryz.func8
def BP:List (Nat×Ann):=[(6,⟨[(1,.val .str),(2,.ref 2 0),(7,.own 9 .str),(17,.val (.slice bQ)),(18,.val tI),(19,.val tI)],[(2,rI)],[],bz _⟩),
 (200006,⟨[(7,.own 9 .str)],[],[],fun _=>0⟩)]
def qY:aA:=⟨[.val bU,.val .str],[.val (.slice .str),.val tI],fun x=>mN x.1 x.2.1⟩
noncomputable def EC:Cx:=⟨tpr,[(12,fG),(24,ki)],[]⟩
theorem DF:aW EC BP none Tryz.f9 qY:=by intro x;kernel_rfl
theorem EW:av tpr 9:=aq Tryz.func9 rfl (by decide)
theorem E5:aG tpr 9 qY:=aH DF (.cons lX lT (.cons uI uv (.nil _))) aJ Tryz.func9
def wC:List (Nat×Ann):=[(2,⟨[(0,.val (.slice .str)),(1,.val .str),(7,.val tI),(8,.val tI)],[],[],bz _⟩),
 (200002,⟨[],[],[],fun _=>0⟩)]
def kL:aA:=⟨[.val (.slice .str),.val .str],[.val tI],fun x=>nt x.1 x.2.1⟩
noncomputable def yD:Cx:=⟨tpr,[],[]⟩
theorem xW:aW yD wC none Tryz.f25 kL:=by intro x;kernel_rfl
theorem yI:av tpr 25:=aq Tryz.func25 rfl (by decide)
theorem yO:aG tpr 25 kL:=aH xW (.nil _) aJ Tryz.func25
def iE:aA:=⟨[.val (.slice .str),.val .str],[.val .bool],fun x=>gy x.1 x.2.1⟩
noncomputable def vD:Cx:=⟨tpr,[(25,kL)],[]⟩
theorem vf:aW vD [] none Tryz.f10 iE:=by intro x;kernel_rfl
theorem vJ:av tpr 10:=aq Tryz.func10 rfl (by decide)
theorem vN:aG tpr 10 iE:=aH vf (.cons yO yI (.nil _)) aJ Tryz.func10
def yT:aA:=⟨[.val aU],[.val aU],fun x=>AK x.1⟩
noncomputable def LP:Cx:=⟨tpr,[],[]⟩
theorem Ks:aW LP [] none Tryz.f27 yT:=by intro x;kernel_rfl
theorem L2:av tpr 27:=aq Tryz.func27 rfl (by decide)
theorem Mb:aG tpr 27 yT:=aH Ks (.nil _) aJ Tryz.func27
def AS:aA:=⟨[.val aU],[.val tI],fun x=>Dj x.1⟩
noncomputable def Nr:Cx:=⟨tpr,[],[]⟩
theorem LW:aW Nr [] none Tryz.f26 AS:=by intro x;kernel_rfl
theorem Nx:av tpr 26:=aq Tryz.func26 rfl (by decide)
theorem NM:aG tpr 26 AS:=aH LW (.nil _) aJ Tryz.func26
def CQ:aA:=⟨[.val aU,.val aU],[.val tI],fun x=>Gy x.1 x.2.1⟩
noncomputable def Ou:Cx:=⟨tpr,[(6,sk),(26,AS),(27,yT)],[]⟩
theorem Ns:aW Ou [] none Tryz.f11 CQ:=by intro x;kernel_rfl
theorem OF:av tpr 11:=aq Tryz.func11 rfl (by decide)
theorem O5:aG tpr 11 CQ:=aH Ns (.cons AG Ar (.cons NM Nx (.cons Mb L2 (.nil _)))) aJ Tryz.func11
def sC:List (Nat×Ann):=[(6,⟨[(1,.ref 1 0),(3,.val (.slice eH)),(5,.ref 5 0),(29,.val (.slice bQ)),(30,.val tI),(31,.val tI)],[(1,rI),(5,dU)],[],bz _⟩),
 (19,⟨[(1,.ref 1 0),(3,.val (.slice eH)),(5,.ref 5 0),(7,.ref 7 0),(29,.val (.slice bQ)),(30,.val tI),(31,.val tI),(83,.val (.slice .str)),(84,.val tI),(85,.val tI)],[(1,rI),(5,dU),(7,Oo)],[],bz _⟩),
 (100014,⟨[(1,.ref 1 0),(3,.val (.slice eH)),(5,.ref 5 0),(7,.ref 7 0),(29,.val (.slice bQ)),(30,.val tI),(31,.val tI)],[(1,rI),(5,dU),(7,Oo)],[],fun _=>0⟩),
 (200006,⟨[(3,.val (.slice eH)),(5,.ref 5 0)],[(5,dU)],[],fun _=>0⟩),
 (200019,⟨[(1,.ref 1 0),(3,.val (.slice eH)),(5,.ref 5 0),(29,.val (.slice bQ)),(30,.val tI),(31,.val tI)],[(1,rI),(5,dU)],[],fun _=>0⟩),
 (300003,⟨[(2,.val .bool)],[],[],fun _=>0⟩),
 (300026,⟨[(2,.val .bool)],[],[],fun _=>0⟩)]
def lF:aA:=⟨[.val bU],[.val .bool],fun x=>fB x.1⟩
noncomputable def uo:Cx:=⟨tpr,[(4,qX),(5,xC),(6,sk),(7,xD),(8,s9),(9,qY),(10,iE),(11,CQ)],[]⟩
theorem sJ:aW uo sC none Tryz.f3 lF:=by intro x;kernel_rfl
theorem uH:aG tpr 3 lF:=aH sJ (.cons E4 EV (.cons K5 KH (.cons AG Ar (.cons K6 KI (.cons HP Hw (.cons E5 EW (.cons vN vJ (.cons O5 OF (.nil _))))))))) aJ Tryz.func3
end Go.Proofs.SeatU
end
