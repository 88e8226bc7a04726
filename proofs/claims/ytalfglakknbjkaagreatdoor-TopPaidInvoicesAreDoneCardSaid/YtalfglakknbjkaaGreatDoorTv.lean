/-
  Each function that the law reaches is as its plain model says. No condition.
-/
import Derived.Test.YtalfglakknbjkaaGreatDoorTn
import Derived.Test.YtalfglakknbjkaaGreatDoorTd
import Derived.Test.YtalfglakknbjkaaGreatDoorProg
import Derived.Shelf.Strings.SlTrimAscii
import Derived.Shelf.Small.Strs
import Derived.Shelf.Strings.Search1
set_option linter.all false
namespace Go.Proofs
open Go.Shelf
def Tryz.LZ:Go.Shelf.Ren:=⟨fun | 160=>94 | 232=>149 | 231=>148 | 227=>150 | 234=>152 | 233=>151 | 236=>154 | 235=>153 | 228=>198 | 271=>201 | 151=>200 | 197=>199 | 120=>226 | 152=>225 | 260=>224 | 137=>236 | 119=>237 | 224=>229 | 225=>228 | 217=>227 | 266=>238 | n=>n,fun | 9=>9 | 4=>4 | 3=>3 | 5=>5 | 117=>205 | 116=>204 | 0=>0 | 124=>208 | 21=>21 | 105=>243 | 46=>177 | 119=>275 | 139=>278 | 138=>277 | n=>n,fun | 3=>1 | 4=>2 | n=>n⟩
theorem Tryz.l7:Go.Proofs.Lays.n160 Tryz.prog Tryz.LZ:={
 mixed:=by kernel_rfl
 f119:=Tryz.func237.trans (congrArg some (by kernel_rfl))
 f120:=Tryz.func226.trans (congrArg some (by kernel_rfl))
 f137:=Tryz.func236.trans (congrArg some (by kernel_rfl))
 f151:=Tryz.func200.trans (congrArg some (by kernel_rfl))
 f152:=Tryz.func225.trans (congrArg some (by kernel_rfl))
 f160:=Tryz.func94.trans (congrArg some (by kernel_rfl))
 f197:=Tryz.func199.trans (congrArg some (by kernel_rfl))
 f217:=Tryz.func227.trans (congrArg some (by kernel_rfl))
 f224:=Tryz.func229.trans (congrArg some (by kernel_rfl))
 f225:=Tryz.func228.trans (congrArg some (by kernel_rfl))
 f227:=Tryz.func150.trans (congrArg some (by kernel_rfl))
 f228:=Tryz.func198.trans (congrArg some (by kernel_rfl))
 f231:=Tryz.func148.trans (congrArg some (by kernel_rfl))
 f232:=Tryz.func149.trans (congrArg some (by kernel_rfl))
 f233:=Tryz.func151.trans (congrArg some (by kernel_rfl))
 f234:=Tryz.func152.trans (congrArg some (by kernel_rfl))
 f235:=Tryz.func153.trans (congrArg some (by kernel_rfl))
 f236:=Tryz.func154.trans (congrArg some (by kernel_rfl))
 f260:=Tryz.func224.trans (congrArg some (by kernel_rfl))
 f266:=Tryz.func238.trans (congrArg some (by kernel_rfl))
 f271:=Tryz.func201.trans (congrArg some (by kernel_rfl))
 t0:=Tryz.underlying0
 a0:=Tryz.isAgg0
 z0:=Tryz.sizeOf0
 v0:=Tryz.zeroValue0
 t3:=Tryz.underlying3
 a3:=Tryz.isAgg3
 z3:=Tryz.sizeOf3
 v3:=Tryz.zeroValue3
 t4:=Tryz.underlying4
 a4:=Tryz.isAgg4
 z4:=Tryz.sizeOf4
 v4:=Tryz.zeroValue4
 t5:=Tryz.underlying5
 a5:=Tryz.isAgg5
 z5:=Tryz.sizeOf5
 v5:=Tryz.zeroValue5
 t9:=Tryz.underlying9
 a9:=Tryz.isAgg9
 z9:=Tryz.sizeOf9
 v9:=Tryz.zeroValue9
 t21:=Tryz.underlying21
 a21:=Tryz.isAgg21
 z21:=Tryz.sizeOf21
 v21:=Tryz.zeroValue21
 t46:=Tryz.underlying177
 a46:=Tryz.isAgg177
 z46:=Tryz.sizeOf177
 v46:=Tryz.zeroValue177
 t105:=Tryz.underlying243
 a105:=Tryz.isAgg243
 z105:=Tryz.sizeOf243
 v105:=Tryz.zeroValue243
 t116:=Tryz.underlying204
 a116:=Tryz.isAgg204
 z116:=Tryz.sizeOf204
 t117:=Tryz.underlying205
 a117:=Tryz.isAgg205
 z117:=Tryz.sizeOf205
 v117:=Tryz.zeroValue205
 t119:=Tryz.underlying275
 a119:=Tryz.isAgg275
 z119:=Tryz.sizeOf275
 t124:=Tryz.underlying208
 a124:=Tryz.isAgg208
 z124:=Tryz.sizeOf208
 v124:=Tryz.zeroValue208
 t138:=Tryz.underlying277
 a138:=Tryz.isAgg277
 z138:=Tryz.sizeOf277
 v138:=Tryz.zeroValue277
 t139:=Tryz.underlying278
 a139:=Tryz.isAgg278
 z139:=Tryz.sizeOf278
 v139:=Tryz.zeroValue278
 g3:=by kernel_rfl
 g4:=by kernel_rfl }
def Tryz.RV:Go.Shelf.Ren:=⟨fun | 106=>185 | 213=>216 | 265=>233 | n=>n,fun | 9=>9 | 3=>3 | n=>n,fun | n=>n⟩
theorem Tryz.Vq:Go.Proofs.Lays.n106 Tryz.prog Tryz.RV:={
 mixed:=by kernel_rfl
 f106:=Tryz.func185.trans (congrArg some (by kernel_rfl))
 f213:=Tryz.func216.trans (congrArg some (by kernel_rfl))
 f265:=Tryz.func233.trans (congrArg some (by kernel_rfl))
 t3:=Tryz.underlying3
 a3:=Tryz.isAgg3
 z3:=Tryz.sizeOf3
 v3:=Tryz.zeroValue3
 t9:=Tryz.underlying9
 a9:=Tryz.isAgg9
 z9:=Tryz.sizeOf9
 v9:=Tryz.zeroValue9 }
end Go.Proofs
namespace Go.Proofs.SeatS
open Go.Dn Go.Md Go.Proofs Go.RowKit Go.Shelf Go.Lib
def AD:aM:=⟨[.val .str,.val .str],[.val .str],fun x=>rP x.1 x.2.1⟩
theorem Np:aB Tryz.prog 94:=av (fn:=Tryz.f94) (by kernel_rfl) rfl (by decide)
theorem Ng:aN Tryz.prog 94 AD:=by
 intro G w ow args x y hG how ha hm
 refine Rv (P:=Tryz.prog) (f:=94) (m:=AD.m) ?_ G w ow args x y hG how ha hm
 intro s c r w hm
 replace hm:rP s c=some (r,()):=hm
 unfold rP at hm
 cases hb:(decide (s.length≤9223372036854775807)&&(decide (c.length<4294967281)&&c.all fun b=>decide (b.toNat<128))) with
 | false=>rw [hb] at hm;cases hm
 | true=>
  rw [hb] at hm
  simp only [cond_true,Option.some.injEq,Prod.mk.injEq,and_true] at hm
  subst hm
  simp only [Wo,decide_eq_true_eq,WS] at hb
  have:=Any.strings_Trim_laid Tryz.l7 (by kernel_rfl) (bs s) (bs c) w (by simpa [bs,ByteArray.size] using hb.1) (by simpa [bs,ByteArray.size] using hb.2.1) (fun j b hj=>hb.2.2 b (List.mem_of_getElem? (by simpa [bs] using hj)))
  change Calls Tryz.prog 94 _ _ _ at this
  simpa [bs] using this
def vJ:aM:=⟨[.val .str,.val .str],[.val tI],fun x=>strings_Compare x.1 x.2.1⟩
theorem JC:aB Tryz.prog 185:=av (fn:=Tryz.f185) (by kernel_rfl) rfl (by decide)
theorem Kz:aN Tryz.prog 185 vJ:=by
 intro G w ow args x y hG how ha hm
 refine TN (P:=Tryz.prog) (f:=185) (t:=tI) (m:=vJ.m) ?_ G w ow args x y hG how ha hm
 intro s c r w hm
 replace hm:strings_Compare s c=some (r,()):=hm
 unfold strings_Compare at hm
 obtain rfl:Lib.compareBytes s c=r:=congrArg (fun o=>(Option.getD o (0,())).1) hm
 have:=Any.strings_Compare Tryz.Vq (bs s) (bs c) w
 refine ⟨.int .i64 (Lib.compareBytes s c),fun G=> ?_,this.mono ?_⟩
 ·rfl
 ·rintro e w' ⟨he,rfl⟩
  exact ⟨he,Below.refl _ _⟩
end Go.Proofs.SeatS
namespace Go.Proofs
open Go.Shelf
theorem Tryz.U9:Go.Proofs.Lays.n217 Tryz.prog Tryz.LZ:={
 mixed:=Tryz.l7.mixed
 f217:=Tryz.l7.f217
 f266:=Tryz.l7.f266
 t3:=Tryz.l7.t3
 a3:=Tryz.l7.a3
 z3:=Tryz.l7.z3
 v3:=Tryz.l7.v3
 t5:=Tryz.l7.t5
 a5:=Tryz.l7.a5
 z5:=Tryz.l7.z5
 v5:=Tryz.l7.v5
 t9:=Tryz.l7.t9
 a9:=Tryz.l7.a9
 z9:=Tryz.l7.z9
 v9:=Tryz.l7.v9
}
end Go.Proofs
namespace Go.Proofs.SeatS
open Go.Dn Go.Md Go.Proofs
def kg:aM:=⟨[.val .str,.val (.int .u8)],[.val tI],fun x=>jd x.1 x.2.1⟩
theorem xK:aB Tryz.prog 227:=av (fn:=Tryz.f227) (by kernel_rfl) rfl (by decide)
theorem xU:aN Tryz.prog 227 kg:=by
 intro G w ow args x y hG how ha hm
 refine RI (P:=Tryz.prog) (f:=227) (a:= .str) (a':= .int .u8) (t:=tI) (m:=kg.m) rfl rfl ?_ G w ow args x y hG how ha hm
 intro s c r w hm
 replace hm:jd s c=some (r,()):=hm
 unfold jd at hm
 obtain rfl:Lib.indexByte s c.toNat.toUInt8=r:=congrArg (fun o=>(Option.getD o (0,())).1) hm
 have:=Any.stringslite_IndexByte Tryz.U9 (bs s) c w
 refine ⟨.int .i64 (Lib.indexByte s c.toNat.toUInt8),fun G=>rfl,this.mono ?_⟩
 rintro e w' ⟨he,rfl⟩
 exact ⟨he,RowKit.Below.refl _ _⟩
end Go.Proofs.SeatS
set_option maxRecDepth 100000
namespace Go.Proofs.SeatS
open Go.Dn Go.Md Go.Proofs
def xu:List CK:=[.val .bool,.own 223 (.int .u32)]
def jN:List CK:=[.val .bool,.val (.slice (.int .u32))]
def Ti:List CK:=[.val .bool,.val tI,.val tI,.val .str]
def VG:List CK:=[.val .str,.val .str,.val tI,.val tI,.val tI,.val .bool,.val (.slice iE),.val (.slice jA),.val (.slice iy),.own 135 ai,.rowR 19,.rowR 10250004,.own 186 cJ,.rowR 10250006,.rowR 21,.rowR 10250008]
def Tf:List CK:=[.val .str,.val .str,.val tI,.val tI,.val tI,.val .bool,.val (.slice iE),.val (.slice jA),.val (.slice iy),.own 135 ai,.val (.slice ai),.own 135 ai,.own 186 cJ,.own 135 ai,.own 4 .bool,.own 135 ai]
def N2:List CK:=[.val .str,.val .str,.val tI,.val tI,.val tI,.val .bool,.val (.slice iE),.val (.slice jA),.val (.slice iy),.rowR 10250002,.val (.slice ai),.rowR 10250004,.rowR 10250005,.rowR 10250006,.rowR 10250007,.rowR 10250008]
def SB:List CK:=[.val .str,.val .str,.val tI,.val tI,.val tI,.val .bool,.val (.slice iE),.val (.slice jA),.val (.slice iy),.rowR 10250002,.val (.slice ai),.rowR 10250004,.rowR 10250005,.rowR 10250006,.rowR 10250007,.rowR 13]
def Of:List CK:=[.val .str,.val .str,.val tI,.val tI,.val tI,.val .bool,.val (.slice iE),.val (.slice jA),.val (.slice iy)]
def SK:List CK:=[.val tI,.val tI,.val tI,.val (.slice .str)]
def Ea:List CK:=[.val tI,.val tI]
def Fx:List (Nat×Ann):=[]
noncomputable def kG:aM:=⟨[.val .str],[.val .bool],fun x=>ja x.1⟩
noncomputable def IY:Cx:=⟨Tryz.prog,[(94,AD)]⟩
theorem Oh:∀ x,bg IY Fx none Tryz.f38 kG x=kG.m x:=by intro x;kernel_rfl
theorem uc:aB Tryz.prog 38:=av (fn:=Tryz.f38) (by kernel_rfl) rfl (by decide)
theorem uo:aN Tryz.prog 38 kG:=aL (X:=IY) (.cons Ng Np (.nil _)) (by kernel_rfl) kG Fx none (by kernel_rfl) (fun x y h=>(Oh x).trans h)
def DY:List (Nat×Ann):=[]
noncomputable def fN:aM:=⟨[.val tI,.val tI,.val tI],[.val .bool],fun x=>bV x.1 x.2.1 x.2.2.1⟩
noncomputable def G9:Cx:=⟨Tryz.prog,[]⟩
theorem MJ:∀ x,bg G9 DY none Tryz.f39 fN x=fN.m x:=by intro x;kernel_rfl
theorem lf:aB Tryz.prog 39:=av (fn:=Tryz.f39) (by kernel_rfl) rfl (by decide)
theorem lA:aN Tryz.prog 39 fN:=aL (X:=G9) (.nil _) (by kernel_rfl) fN DY none (by kernel_rfl) (fun x y h=>(MJ x).trans h)
def GF:List (Nat×Ann):=[]
noncomputable def pz:aM:=⟨[.val tI],[.val .bool],fun x=>yZ x.1⟩
noncomputable def Jr:Cx:=⟨Tryz.prog,[(39,fN)]⟩
theorem PF:∀ x,bg Jr GF none Tryz.f50 pz x=pz.m x:=by intro x;kernel_rfl
theorem EA:aB Tryz.prog 50:=av (fn:=Tryz.f50) (by kernel_rfl) rfl (by decide)
theorem D4:aN Tryz.prog 50 pz:=aL (X:=Jr) (.cons lA lf (.nil _)) (by kernel_rfl) pz GF none (by kernel_rfl) (fun x y h=>(PF x).trans h)
def Dc:List (Nat×Ann):=[]
noncomputable def qM:aM:=⟨[.val tI],[.val .bool],fun x=>EZ x.1⟩
noncomputable def Fo:Cx:=⟨Tryz.prog,[(39,fN)]⟩
theorem My:∀ x,bg Fo Dc none Tryz.f90 qM x=qM.m x:=by intro x;kernel_rfl
theorem Ny:aB Tryz.prog 90:=av (fn:=Tryz.f90) (by kernel_rfl) rfl (by decide)
theorem Nr:aN Tryz.prog 90 qM:=aL (X:=Fo) (.cons lA lf (.nil _)) (by kernel_rfl) qM Dc none (by kernel_rfl) (fun x y h=>(My x).trans h)
def vf:List (Nat×Ann):=[]
noncomputable def cy:aM:=⟨[.val aZ],[.val tI],fun x=>bW x.1⟩
noncomputable def x6:Cx:=⟨Tryz.prog,[(39,fN)]⟩
theorem E4:∀ x,bg x6 vf none Tryz.f102 cy x=cy.m x:=by intro x;kernel_rfl
theorem iT:aB Tryz.prog 102:=av (fn:=Tryz.f102) (by kernel_rfl) rfl (by decide)
theorem iR:aN Tryz.prog 102 cy:=aL (X:=x6) (.cons lA lf (.nil _)) (by kernel_rfl) cy vf none (by kernel_rfl) (fun x y h=>(E4 x).trans h)
def FC:List (Nat×Ann):=[(3,⟨[(3,.val tI),(4,.val tI),(5,.val tI)],[],[],bf _⟩),
 (200003,⟨[(3,.val tI)],[],[],fun _=>0⟩)]
noncomputable def nW:aM:=⟨[.val tI],[.val tI],fun x=>wg x.1⟩
noncomputable def I0:Cx:=⟨Tryz.prog,[]⟩
theorem NX:∀ x,bg I0 FC none Tryz.f160 nW x=nW.m x:=by intro x;kernel_rfl
theorem CU:aB Tryz.prog 160:=av (fn:=Tryz.f160) (by kernel_rfl) rfl (by decide)
theorem CX:aN Tryz.prog 160 nW:=aL (X:=I0) (.nil _) (by kernel_rfl) nW FC none (by kernel_rfl) (fun x y h=>(NX x).trans h)
def Db:List (Nat×Ann):=[]
noncomputable def jQ:aM:=⟨[.val aZ,.val tI],[.val .bool],fun x=>fX x.1 x.2.1⟩
noncomputable def FH:Cx:=⟨Tryz.prog,[(39,fN),(160,nW)]⟩
theorem Mf:∀ x,bg FH Db none Tryz.f103 jQ x=jQ.m x:=by intro x;kernel_rfl
theorem uM:aB Tryz.prog 103:=av (fn:=Tryz.f103) (by kernel_rfl) rfl (by decide)
theorem uJ:aN Tryz.prog 103 jQ:=aL (X:=FH) (.cons lA lf (.cons CX CU (.nil _))) (by kernel_rfl) jQ Db none (by kernel_rfl) (fun x y h=>(Mf x).trans h)
def z1:List (Nat×Ann):=[(6,⟨[(0,.val (.slice iE)),(12,.val (.slice iE)),(13,.val tI),(14,.val tI)],[],[],bf _⟩),
 (200006,⟨[],[],[],fun _=>0⟩)]
noncomputable def nq:aM:=⟨[.val (.slice iE)],[.val tI],fun x=>nM x.1⟩
noncomputable def Cy:Cx:=⟨Tryz.prog,[(38,kG),(102,cy),(103,jQ)]⟩
theorem I6:∀ x,bg Cy z1 none Tryz.f91 nq x=nq.m x:=by intro x;kernel_rfl
theorem Kn:aB Tryz.prog 91:=av (fn:=Tryz.f91) (by kernel_rfl) rfl (by decide)
theorem Kp:aN Tryz.prog 91 nq:=aL (X:=Cy) (.cons uo uc (.cons iR iT (.cons uJ uM (.nil _)))) (by kernel_rfl) nq z1 none (by kernel_rfl) (fun x y h=>(I6 x).trans h)
def EE:List (Nat×Ann):=[(3,⟨[(3,.val tI),(4,.val tI),(5,.val tI)],[],[],bf _⟩),
 (200003,⟨[(3,.val tI)],[],[],fun _=>0⟩)]
noncomputable def sA:aM:=⟨[.val tI],[.val tI],fun x=>Ga x.1⟩
noncomputable def HB:Cx:=⟨Tryz.prog,[]⟩
theorem Nc:∀ x,bg HB EE none Tryz.f223 sA x=sA.m x:=by intro x;kernel_rfl
theorem N3:aB Tryz.prog 223:=av (fn:=Tryz.f223) (by kernel_rfl) rfl (by decide)
theorem N0:aN Tryz.prog 223 sA:=aL (X:=HB) (.nil _) (by kernel_rfl) sA EE none (by kernel_rfl) (fun x y h=>(Nc x).trans h)
def Df:List (Nat×Ann):=[]
noncomputable def qD:aM:=⟨[.val aZ,.val tI,.val tI],[.val .bool],fun x=>Er x.1 x.2.1 x.2.2.1⟩
noncomputable def Fv:Cx:=⟨Tryz.prog,[(223,sA)]⟩
theorem MC:∀ x,bg Fv Df none Tryz.f197 qD x=qD.m x:=by intro x;kernel_rfl
theorem NG:aB Tryz.prog 197:=av (fn:=Tryz.f197) (by kernel_rfl) rfl (by decide)
theorem Nl:aN Tryz.prog 197 qD:=aL (X:=Fv) (.cons N0 N3 (.nil _)) (by kernel_rfl) qD Df none (by kernel_rfl) (fun x y h=>(MC x).trans h)
def zg:List (Nat×Ann):=[]
noncomputable def mC:aM:=⟨[.val aZ],[.val tI],fun x=>o8 x.1⟩
noncomputable def A5:Cx:=⟨Tryz.prog,[(102,cy),(197,qD)]⟩
theorem HK:∀ x,bg A5 zg none Tryz.f146 mC x=mC.m x:=by intro x;kernel_rfl
theorem I9:aB Tryz.prog 146:=av (fn:=Tryz.f146) (by kernel_rfl) rfl (by decide)
theorem Jk:aN Tryz.prog 146 mC:=aL (X:=A5) (.cons iR iT (.cons Nl NG (.nil _))) (by kernel_rfl) mC zg none (by kernel_rfl) (fun x y h=>(HK x).trans h)
def CN:List (Nat×Ann):=[]
noncomputable def oY:aM:=⟨[.val iE,.val .str],[.val tI],fun x=>CP x.1 x.2.1⟩
noncomputable def Ee:Cx:=⟨Tryz.prog,[(185,vJ)]⟩
theorem Lx:∀ x,bg Ee CN none Tryz.f184 oY x=oY.m x:=by intro x;kernel_rfl
theorem Mu:aB Tryz.prog 184:=av (fn:=Tryz.f184) (by kernel_rfl) rfl (by decide)
theorem Mb:aN Tryz.prog 184 oY:=aL (X:=Ee) (.cons Kz JC (.nil _)) (by kernel_rfl) oY CN none (by kernel_rfl) (fun x y h=>(Lx x).trans h)
def j7:List (Nat×Ann):=[(3,⟨[(0,.val (.slice iE)),(1,.val .str),(2,.val (.clo 184 .unit)),(8,.val tI),(9,.val tI),(10,.val tI)],[],[],bf _⟩),
 (200003,⟨[(0,.val (.slice iE)),(1,.val .str),(2,.val (.clo 184 .unit)),(8,.val tI),(9,.val tI)],[],[],fun _=>0⟩)]
noncomputable def cr:aM:=⟨[.val (.slice iE),.val .str,.val (.clo 184 .unit)],[.val tI,.val .bool],fun x=>eH x.1 x.2.1 x.2.2.1⟩
noncomputable def kO:Cx:=⟨Tryz.prog,[(184,oY)]⟩
theorem rf:∀ x,bg kO j7 none Tryz.f183 cr x=cr.m x:=by intro x;kernel_rfl
theorem r0:aB Tryz.prog 183:=av (fn:=Tryz.f183) (by kernel_rfl) rfl (by decide)
theorem so:aN Tryz.prog 183 cr:=aL (X:=kO) (.cons Mb Mu (.nil _)) (by kernel_rfl) cr j7 none (by kernel_rfl) (fun x y h=>(rf x).trans h)
def D7:List (Nat×Ann):=[]
noncomputable def mR:aM:=⟨[.val (.slice iE),.val .str],[.val tI,.val .bool],fun x=>qV x.1 x.2.1⟩
noncomputable def Gv:Cx:=⟨Tryz.prog,[(183,cr)]⟩
theorem NO:∀ x,bg Gv D7 none Tryz.f124 mR x=mR.m x:=by intro x;kernel_rfl
theorem Bg:aB Tryz.prog 124:=av (fn:=Tryz.f124) (by kernel_rfl) rfl (by decide)
theorem Be:aN Tryz.prog 124 mR:=aL (X:=Gv) (.cons so r0 (.nil _)) (by kernel_rfl) mR D7 none (by kernel_rfl) (fun x y h=>(NO x).trans h)
def Ds:List (Nat×Ann):=[]
noncomputable def nP:aM:=⟨[.val b7,.val .str],[.val .bool],fun x=>j9 x.1 x.2.1⟩
noncomputable def FG:Cx:=⟨Tryz.prog,[(124,mR)]⟩
theorem L5:∀ x,bg FG Ds none Tryz.f147 nP x=nP.m x:=by intro x;kernel_rfl
theorem Fu:aB Tryz.prog 147:=av (fn:=Tryz.f147) (by kernel_rfl) rfl (by decide)
theorem Ff:aN Tryz.prog 147 nP:=aL (X:=FG) (.cons Be Bg (.nil _)) (by kernel_rfl) nP Ds none (by kernel_rfl) (fun x y h=>(L5 x).trans h)
def za:List (Nat×Ann):=[(4,⟨[(2,.val .bool),(3,.ref 3 0),(13,.val (.slice iy)),(14,.val tI),(15,.val tI)],[(3,Of)],[],bf _⟩),
 (100012,⟨[(2,.val .bool),(3,.ref 3 0),(8,.ref 8 0),(13,.val (.slice iy)),(14,.val tI),(15,.val tI),(30,.val .bool)],[(3,Of),(8,Ti)],[],fun _=>0⟩),
 (200004,⟨[],[],[],fun _=>0⟩)]
noncomputable def jX:aM:=⟨[.val b7,.val (.slice iy),.val .bool],[.val tI],fun x=>kM x.1 x.2.1 x.2.2.1⟩
noncomputable def AS:Cx:=⟨Tryz.prog,[(102,cy),(103,jQ),(147,nP)]⟩
theorem H6:∀ x,bg AS za none Tryz.f93 jX x=jX.m x:=by intro x;kernel_rfl
theorem AU:aB Tryz.prog 93:=av (fn:=Tryz.f93) (by kernel_rfl) rfl (by decide)
theorem AW:aN Tryz.prog 93 jX:=aL (X:=AS) (.cons iR iT (.cons uJ uM (.cons Ff Fu (.nil _)))) (by kernel_rfl) jX za none (by kernel_rfl) (fun x y h=>(H6 x).trans h)
def AT:List (Nat×Ann):=[]
noncomputable def ov:aM:=⟨[.val b7,.val tI],[.val tI],fun x=>su x.1 x.2.1⟩
noncomputable def Da:Cx:=⟨Tryz.prog,[(38,kG),(39,fN),(93,jX),(102,cy),(103,jQ),(146,mC),(147,nP)]⟩
theorem Jo:∀ x,bg Da AT none Tryz.f92 ov x=ov.m x:=by intro x;kernel_rfl
theorem LB:aB Tryz.prog 92:=av (fn:=Tryz.f92) (by kernel_rfl) rfl (by decide)
theorem K5:aN Tryz.prog 92 ov:=aL (X:=Da) (.cons uo uc (.cons lA lf (.cons AW AU (.cons iR iT (.cons uJ uM (.cons Jk I9 (.cons Ff Fu (.nil _)))))))) (by kernel_rfl) ov AT none (by kernel_rfl) (fun x y h=>(Jo x).trans h)
def xM:List (Nat×Ann):=[(15,⟨[(1,.ref 1 0),(48,.val tI),(49,.val tI)],[(1,Of)],[],bf _⟩),
 (200015,⟨[(1,.ref 1 0)],[(1,Of)],[],fun _=>0⟩)]
noncomputable def lJ:aM:=⟨[.val b7],[.val tI],fun x=>rD x.1⟩
noncomputable def Af:Cx:=⟨Tryz.prog,[(38,kG),(39,fN),(50,pz),(90,qM),(91,nq),(92,ov),(93,jX)]⟩
theorem Hu:∀ x,bg Af xM none Tryz.f37 lJ x=lJ.m x:=by intro x;kernel_rfl
theorem Ib:aB Tryz.prog 37:=av (fn:=Tryz.f37) (by kernel_rfl) rfl (by decide)
theorem Iy:aN Tryz.prog 37 lJ:=aL (X:=Af) (.cons uo uc (.cons lA lf (.cons D4 EA (.cons Nr Ny (.cons Kp Kn (.cons K5 LB (.cons AW AU (.nil _)))))))) (by kernel_rfl) lJ xM none (by kernel_rfl) (fun x y h=>(Hu x).trans h)
def B8:List (Nat×Ann):=[(1,⟨[(0,.val (.slice (.int .u32)))],[],[],bf _⟩),
 (200001,⟨[(0,.val (.slice (.int .u32)))],[],[],fun _=>0⟩)]
noncomputable def kL:aM:=⟨[.val (.slice (.int .u32))],[.val (.slice (.int .u32))],fun x=>qd x.1⟩
noncomputable def El:Cx:=⟨Tryz.prog,[]⟩
theorem Lu:∀ x,bg El B8 none Tryz.f190 kL x=kL.m x:=by intro x;kernel_rfl
theorem yA:aB Tryz.prog 190:=av (fn:=Tryz.f190) (by kernel_rfl) rfl (by decide)
theorem yy:aN Tryz.prog 190 kL:=aL (X:=El) (.nil _) (by kernel_rfl) kL B8 none (by kernel_rfl) (fun x y h=>(Lu x).trans h)
def Fs:List (Nat×Ann):=[]
noncomputable def jx:aM:=⟨[.val .bool,.val (.slice (.int .u32))],[.val ai],fun x=>jC x.1 x.2.1⟩
noncomputable def IJ:Cx:=⟨Tryz.prog,[(190,kL)]⟩
theorem OA:∀ x,bg IJ Fs none Tryz.f132 jx x=jx.m x:=by intro x;kernel_rfl
theorem p6:aB Tryz.prog 132:=av (fn:=Tryz.f132) (by kernel_rfl) rfl (by decide)
theorem qb:aN Tryz.prog 132 jx:=aL (X:=IJ) (.cons yy yA (.nil _)) (by kernel_rfl) jx Fs none (by kernel_rfl) (fun x y h=>(OA x).trans h)
def I2:List (Nat×Ann):=[(100003,⟨[(0,.val tI),(2,.ref 2 0),(3,.val (.int .u64))],[(2,xu)],[],fun _=>0⟩)]
noncomputable def eZ:aM:=⟨[.val tI],[.val ai],fun x=>bD x.1⟩
noncomputable def LM:Cx:=⟨Tryz.prog,[(132,jx)]⟩
theorem Qx:∀ x,bg LM I2 none Tryz.f127 eZ x=eZ.m x:=by intro x;kernel_rfl
theorem jz:aB Tryz.prog 127:=av (fn:=Tryz.f127) (by kernel_rfl) rfl (by decide)
theorem jy:aN Tryz.prog 127 eZ:=aL (X:=LM) (.cons qb p6 (.nil _)) (by kernel_rfl) eZ I2 none (by kernel_rfl) (fun x y h=>(Qx x).trans h)
def zZ:List (Nat×Ann):=[(3,⟨[(2,.ref 2 0),(3,.ref 3 0),(4,.ref 4 0),(5,.rowR 18),(20,.val (.slice (.int .u32))),(21,.val tI),(22,.val tI)],[(2,jN),(3,jN),(4,xu)],[.rowC 18 223 (.int .u32)],bf _⟩),
 (7,⟨[(2,.ref 2 0),(3,.ref 3 0),(4,.ref 4 0),(5,.rowR 18),(6,.val tI),(7,.val (.int .u32)),(8,.val (.int .u64)),(20,.val (.slice (.int .u32))),(21,.val tI),(22,.val tI),(28,.val (.slice (.int .u32))),(29,.val tI),(30,.val tI)],[(2,jN),(3,jN),(4,xu)],[.rowC 18 223 (.int .u32)],bf _⟩),
 (200003,⟨[(2,.ref 2 0),(3,.ref 3 0),(4,.ref 4 0),(5,.rowR 18)],[(2,jN),(3,jN),(4,xu)],[.rowC 18 223 (.int .u32)],fun _=>0⟩),
 (200007,⟨[(2,.ref 2 0),(3,.ref 3 0),(4,.ref 4 0),(5,.rowR 18),(6,.val tI),(8,.val (.int .u64)),(20,.val (.slice (.int .u32))),(21,.val tI),(22,.val tI)],[(2,jN),(3,jN),(4,xu)],[.rowC 18 223 (.int .u32)],fun _=>0⟩)]
noncomputable def dZ:aM:=⟨[.val ai,.val ai],[.val ai],fun x=>eo x.1 x.2.1⟩
noncomputable def CL:Cx:=⟨Tryz.prog,[(132,jx)]⟩
theorem Jj:∀ x,bg CL zZ none Tryz.f143 dZ x=dZ.m x:=by intro x;kernel_rfl
theorem kU:aB Tryz.prog 143:=av (fn:=Tryz.f143) (by kernel_rfl) rfl (by decide)
theorem lg:aN Tryz.prog 143 dZ:=aL (X:=CL) (.cons qb p6 (.nil _)) (by kernel_rfl) dZ zZ none (by kernel_rfl) (fun x y h=>(Jj x).trans h)
def Em:List (Nat×Ann):=[(3,⟨[(2,.ref 2 0),(3,.ref 3 0),(5,.val tI),(6,.val tI)],[(2,xu),(3,jN)],[],bf _⟩),
 (200003,⟨[(2,.ref 2 0),(3,.ref 3 0)],[(2,xu),(3,jN)],[],fun _=>0⟩)]
noncomputable def mM:aM:=⟨[.val tI],[.val ai],fun x=>oR x.1⟩
noncomputable def Hw:Cx:=⟨Tryz.prog,[(127,eZ),(143,dZ)]⟩
theorem M6:∀ x,bg Hw Em none Tryz.f144 mM x=mM.m x:=by intro x;kernel_rfl
theorem Bj:aB Tryz.prog 144:=av (fn:=Tryz.f144) (by kernel_rfl) rfl (by decide)
theorem Bo:aN Tryz.prog 144 mM:=aL (X:=Hw) (.cons jy jz (.cons lg kU (.nil _))) (by kernel_rfl) mM Em none (by kernel_rfl) (fun x y h=>(M6 x).trans h)
def G5:List (Nat×Ann):=[(6,⟨[(1,.val (.slice (.int .u32))),(5,.own 223 (.int .u32)),(6,.val (.int .u64)),(20,.val (.slice (.int .u32))),(21,.val tI),(22,.val tI)],[],[],bf _⟩),
 (100002,⟨[(0,.val (.slice (.int .u32))),(1,.val (.slice (.int .u32)))],[],[],fun _=>0⟩),
 (100010,⟨[(1,.val (.slice (.int .u32))),(5,.own 223 (.int .u32)),(6,.val (.int .u64)),(20,.val (.slice (.int .u32))),(21,.val tI),(22,.val tI)],[],[],fun _=>0⟩),
 (200006,⟨[(5,.own 223 (.int .u32)),(6,.val (.int .u64))],[],[],fun _=>0⟩)]
noncomputable def vK:aM:=⟨[.val (.slice (.int .u32)),.val (.slice (.int .u32))],[.row 223 (.int .u32)],fun x=>B4 x.1 x.2.1⟩
noncomputable def J1:Cx:=⟨Tryz.prog,[]⟩
theorem Pr:∀ x,bg J1 G5 none Tryz.f133 vK x=vK.m x:=by intro x;kernel_rfl
theorem Q4:aB Tryz.prog 133:=av (fn:=Tryz.f133) (by kernel_rfl) rfl (by decide)
theorem P9:aN Tryz.prog 133 vK:=aL (X:=J1) (.nil _) (by kernel_rfl) vK G5 none (by kernel_rfl) (fun x y h=>(Pr x).trans h)
def Ey:List (Nat×Ann):=[(6,⟨[(1,.val (.slice (.int .u32))),(5,.own 223 (.int .u32)),(6,.val (.int .u64)),(20,.val (.slice (.int .u32))),(21,.val tI),(22,.val tI)],[],[],bf _⟩),
 (100002,⟨[(0,.val (.slice (.int .u32))),(1,.val (.slice (.int .u32)))],[],[],fun _=>0⟩),
 (100010,⟨[(1,.val (.slice (.int .u32))),(5,.own 223 (.int .u32)),(6,.val (.int .u64)),(20,.val (.slice (.int .u32))),(21,.val tI),(22,.val tI)],[],[],fun _=>0⟩),
 (200006,⟨[(5,.own 223 (.int .u32)),(6,.val (.int .u64))],[],[],fun _=>0⟩)]
noncomputable def rX:aM:=⟨[.val (.slice (.int .u32)),.val (.slice (.int .u32))],[.val (.slice (.int .u32))],fun x=>Gf x.1 x.2.1⟩
noncomputable def G4:Cx:=⟨Tryz.prog,[]⟩
theorem NC:∀ x,bg G4 Ey none Tryz.f133 rX x=rX.m x:=by intro x;kernel_rfl
theorem NY:aB Tryz.prog 133:=av (fn:=Tryz.f133) (by kernel_rfl) rfl (by decide)
theorem N6:aN Tryz.prog 133 rX:=aL (X:=G4) (.nil _) (by kernel_rfl) rX Ey none (by kernel_rfl) (fun x y h=>(NC x).trans h)
def Cf:List (Nat×Ann):=[(4,⟨[(0,.val (.slice (.int .u32))),(1,.val (.slice (.int .u32))),(5,.val tI)],[],[],bf _⟩),
 (200004,⟨[],[],[],fun _=>0⟩)]
noncomputable def mL:aM:=⟨[.val (.slice (.int .u32)),.val (.slice (.int .u32))],[.val tI],fun x=>um x.1 x.2.1⟩
noncomputable def DX:Cx:=⟨Tryz.prog,[]⟩
theorem Lm:∀ x,bg DX Cf none Tryz.f134 mL x=mL.m x:=by intro x;kernel_rfl
theorem Eu:aB Tryz.prog 134:=av (fn:=Tryz.f134) (by kernel_rfl) rfl (by decide)
theorem Eo:aN Tryz.prog 134 mL:=aL (X:=DX) (.nil _) (by kernel_rfl) mL Cf none (by kernel_rfl) (fun x y h=>(Lm x).trans h)
def FA:List (Nat×Ann):=[(4,⟨[(1,.val (.slice (.int .u32))),(5,.own 223 (.int .u32)),(6,.val (.int .u64)),(13,.val (.slice (.int .u32))),(14,.val tI),(15,.val tI)],[],[],bf _⟩),
 (100008,⟨[(1,.val (.slice (.int .u32))),(5,.own 223 (.int .u32)),(9,.val (.int .u64)),(13,.val (.slice (.int .u32))),(14,.val tI),(15,.val tI)],[],[],fun _=>0⟩),
 (200004,⟨[(5,.own 223 (.int .u32))],[],[],fun _=>0⟩)]
noncomputable def qc:aM:=⟨[.val (.slice (.int .u32)),.val (.slice (.int .u32))],[.val (.slice (.int .u32))],fun x=>wh x.1 x.2.1⟩
noncomputable def I1:Cx:=⟨Tryz.prog,[(190,kL)]⟩
theorem OC:∀ x,bg I1 FA none Tryz.f135 qc x=qc.m x:=by intro x;kernel_rfl
theorem IM:aB Tryz.prog 135:=av (fn:=Tryz.f135) (by kernel_rfl) rfl (by decide)
theorem IZ:aN Tryz.prog 135 qc:=aL (X:=I1) (.cons yy yA (.nil _)) (by kernel_rfl) qc FA none (by kernel_rfl) (fun x y h=>(OC x).trans h)
def Dl:List (Nat×Ann):=[(4,⟨[(2,.ref 2 0),(3,.ref 3 0),(4,.ref 4 0),(5,.ref 5 0),(6,.rowR 12),(7,.val (.slice (.int .u32))),(8,.val tI)],[(2,jN),(3,jN),(4,xu),(5,xu)],[.rowC 12 223 (.int .u32)],bf _⟩),
 (200004,⟨[(4,.ref 4 0),(5,.ref 5 0),(6,.rowR 12),(7,.val (.slice (.int .u32)))],[(4,xu),(5,xu)],[.rowC 12 223 (.int .u32)],fun _=>0⟩)]
noncomputable def lT:aM:=⟨[.val ai,.val ai],[.val ai,.val ai],fun x=>o5 x.1 x.2.1⟩
noncomputable def FD:Cx:=⟨Tryz.prog,[(132,jx),(133,vK),(134,mL),(135,qc),(190,kL)]⟩
theorem Mx:∀ x,bg FD Dl none Tryz.f195 lT x=lT.m x:=by intro x;kernel_rfl
theorem Aw:aB Tryz.prog 195:=av (fn:=Tryz.f195) (by kernel_rfl) rfl (by decide)
theorem Ay:aN Tryz.prog 195 lT:=aL (X:=FD) (.cons qb p6 (.cons P9 Q4 (.cons Eo Eu (.cons IZ IM (.cons yy yA (.nil _)))))) (by kernel_rfl) lT Dl none (by kernel_rfl) (fun x y h=>(Mx x).trans h)
def AL:List (Nat×Ann):=[]
noncomputable def gJ:aM:=⟨[.val ai],[.val tI],fun x=>aC x.1⟩
noncomputable def Dr:Cx:=⟨Tryz.prog,[]⟩
theorem Kf:∀ x,bg Dr AL none Tryz.f158 gJ x=gJ.m x:=by intro x;kernel_rfl
theorem n6:aB Tryz.prog 158:=av (fn:=Tryz.f158) (by kernel_rfl) rfl (by decide)
theorem oc:aN Tryz.prog 158 gJ:=aL (X:=Dr) (.nil _) (by kernel_rfl) gJ AL none (by kernel_rfl) (fun x y h=>(Kf x).trans h)
def AX:List (Nat×Ann):=[]
noncomputable def cg:aM:=⟨[.val ai,.val ai],[.val ai],fun x=>aV x.1 x.2.1⟩
noncomputable def Di:Cx:=⟨Tryz.prog,[(132,jx),(133,rX),(134,mL),(135,qc)]⟩
theorem Jy:∀ x,bg Di AX none Tryz.f71 cg x=cg.m x:=by intro x;kernel_rfl
theorem eY:aB Tryz.prog 71:=av (fn:=Tryz.f71) (by kernel_rfl) rfl (by decide)
theorem fe:aN Tryz.prog 71 cg:=aL (X:=Di) (.cons qb p6 (.cons N6 NY (.cons Eo Eu (.cons IZ IM (.nil _))))) (by kernel_rfl) cg AX none (by kernel_rfl) (fun x y h=>(Jy x).trans h)
def zN:List (Nat×Ann):=[]
noncomputable def iB:aM:=⟨[.val ai],[.val ai],fun x=>aD x.1⟩
noncomputable def B6:Cx:=⟨Tryz.prog,[(132,jx)]⟩
theorem I3:∀ x,bg B6 zN none Tryz.f159 iB x=iB.m x:=by intro x;kernel_rfl
theorem qJ:aB Tryz.prog 159:=av (fn:=Tryz.f159) (by kernel_rfl) rfl (by decide)
theorem qz:aN Tryz.prog 159 iB:=aL (X:=B6) (.cons qb p6 (.nil _)) (by kernel_rfl) iB zN none (by kernel_rfl) (fun x y h=>(I3 x).trans h)
def A6:List (Nat×Ann):=[]
noncomputable def om:aM:=⟨[.val ai,.val ai],[.val ai],fun x=>wm x.1 x.2.1⟩
noncomputable def Du:Cx:=⟨Tryz.prog,[(71,cg),(159,iB)]⟩
theorem J2:∀ x,bg Du A6 none Tryz.f165 om x=om.m x:=by intro x;kernel_rfl
theorem K7:aB Tryz.prog 165:=av (fn:=Tryz.f165) (by kernel_rfl) rfl (by decide)
theorem Ly:aN Tryz.prog 165 om:=aL (X:=Du) (.cons fe eY (.cons qz qJ (.nil _))) (by kernel_rfl) om A6 none (by kernel_rfl) (fun x y h=>(J2 x).trans h)
def xF:List (Nat×Ann):=[]
noncomputable def jD:aM:=⟨[.val ai,.val ai],[.val tI],fun x=>oz x.1 x.2.1⟩
noncomputable def zP:Cx:=⟨Tryz.prog,[(158,gJ),(165,om)]⟩
theorem GW:∀ x,bg zP xF none Tryz.f116 jD x=jD.m x:=by intro x;kernel_rfl
theorem Ai:aB Tryz.prog 116:=av (fn:=Tryz.f116) (by kernel_rfl) rfl (by decide)
theorem zT:aN Tryz.prog 116 jD:=aL (X:=zP) (.cons oc n6 (.cons Ly K7 (.nil _))) (by kernel_rfl) jD xF none (by kernel_rfl) (fun x y h=>(GW x).trans h)
def Cj:List (Nat×Ann):=[]
noncomputable def pL:aM:=⟨[.val ai],[.val .bool],fun x=>gV x.1⟩
noncomputable def D5:Cx:=⟨Tryz.prog,[]⟩
theorem Ln:∀ x,bg D5 Cj none Tryz.f196 pL x=pL.m x:=by intro x;kernel_rfl
theorem Mg:aB Tryz.prog 196:=av (fn:=Tryz.f196) (by kernel_rfl) rfl (by decide)
theorem Mt:aN Tryz.prog 196 pL:=aL (X:=D5) (.nil _) (by kernel_rfl) pL Cj none (by kernel_rfl) (fun x y h=>(Ln x).trans h)
def AR:List (Nat×Ann):=[]
noncomputable def lZ:aM:=⟨[.val ai,.val ai,.val tI],[.val ai],fun x=>sd x.1 x.2.1 x.2.2.1⟩
noncomputable def Dt:Cx:=⟨Tryz.prog,[(71,cg),(116,jD),(127,eZ),(158,gJ),(159,iB),(195,lT),(196,pL)]⟩
theorem Kb:∀ x,bg Dt AR none Tryz.f145 lZ x=lZ.m x:=by intro x;kernel_rfl
theorem Dw:aB Tryz.prog 145:=av (fn:=Tryz.f145) (by kernel_rfl) rfl (by decide)
theorem Dp:aN Tryz.prog 145 lZ:=aL (X:=Dt) (.cons fe eY (.cons zT Ai (.cons jy jz (.cons oc n6 (.cons qz qJ (.cons Ay Aw (.cons Mt Mg (.nil _)))))))) (by kernel_rfl) lZ AR none (by kernel_rfl) (fun x y h=>(Kb x).trans h)
def Cw:List (Nat×Ann):=[(5,⟨[(1,.val tI),(2,.ref 2 0),(6,.val (.int .u64)),(14,.val (.slice (.int .u32))),(15,.val tI),(16,.val tI)],[(2,jN)],[],bf _⟩),
 (200005,⟨[(1,.val tI),(2,.ref 2 0),(6,.val (.int .u64))],[(2,jN)],[],fun _=>0⟩)]
noncomputable def jw:aM:=⟨[.val ai,.val tI],[.val tI,.val .bool],fun x=>nX x.1 x.2.1⟩
noncomputable def Ej:Cx:=⟨Tryz.prog,[]⟩
theorem Li:∀ x,bg Ej Cw none Tryz.f137 jw x=jw.m x:=by intro x;kernel_rfl
theorem tj:aB Tryz.prog 137:=av (fn:=Tryz.f137) (by kernel_rfl) rfl (by decide)
theorem tN:aN Tryz.prog 137 jw:=aL (X:=Ej) (.nil _) (by kernel_rfl) jw Cw none (by kernel_rfl) (fun x y h=>(Li x).trans h)
def Gu:List (Nat×Ann):=[]
noncomputable def jt:aM:=⟨[.val ai],[.val .bool],fun x=>jU x.1⟩
noncomputable def JM:Cx:=⟨Tryz.prog,[(137,jw)]⟩
theorem Po:∀ x,bg JM Gu none Tryz.f74 jt x=jt.m x:=by intro x;kernel_rfl
theorem pn:aB Tryz.prog 74:=av (fn:=Tryz.f74) (by kernel_rfl) rfl (by decide)
theorem o7:aN Tryz.prog 74 jt:=aL (X:=JM) (.cons tN tj (.nil _)) (by kernel_rfl) jt Gu none (by kernel_rfl) (fun x y h=>(Po x).trans h)
def FE:List (Nat×Ann):=[]
noncomputable def ua:aM:=⟨[.val b7,.val jA],[.val ai,.val .bool],fun x=>DJ x.1 x.2.1⟩
noncomputable def IL:Cx:=⟨Tryz.prog,[(74,jt),(127,eZ),(143,dZ),(144,mM),(145,lZ)]⟩
theorem OJ:∀ x,bg IL FE none Tryz.f87 ua x=ua.m x:=by intro x;kernel_rfl
theorem Pv:aB Tryz.prog 87:=av (fn:=Tryz.f87) (by kernel_rfl) rfl (by decide)
theorem PE:aN Tryz.prog 87 ua:=aL (X:=IL) (.cons o7 pn (.cons jy jz (.cons lg kU (.cons Bo Bj (.cons Dp Dw (.nil _)))))) (by kernel_rfl) ua FE none (by kernel_rfl) (fun x y h=>(OJ x).trans h)
def CC:List (Nat×Ann):=[]
noncomputable def mN:aM:=⟨[.val aZ,.val tI],[.val ai],fun x=>qa x.1 x.2.1⟩
noncomputable def Ew:Cx:=⟨Tryz.prog,[(127,eZ),(143,dZ),(144,mM)]⟩
theorem Lw:∀ x,bg Ew CC none Tryz.f88 mN x=mN.m x:=by intro x;kernel_rfl
theorem EP:aB Tryz.prog 88:=av (fn:=Tryz.f88) (by kernel_rfl) rfl (by decide)
theorem DU:aN Tryz.prog 88 mN:=aL (X:=Ew) (.cons jy jz (.cons lg kU (.cons Bo Bj (.nil _)))) (by kernel_rfl) mN CC none (by kernel_rfl) (fun x y h=>(Lw x).trans h)
def Gs:List (Nat×Ann):=[]
noncomputable def o6:aM:=⟨[.val b7,.val ai,.val aZ],[.val ai],fun x=>qN x.1 x.2.1 x.2.2.1⟩
noncomputable def JV:Cx:=⟨Tryz.prog,[(127,eZ),(143,dZ),(144,mM),(145,lZ)]⟩
theorem PD:∀ x,bg JV Gs none Tryz.f89 o6 x=o6.m x:=by intro x;kernel_rfl
theorem Ei:aB Tryz.prog 89:=av (fn:=Tryz.f89) (by kernel_rfl) rfl (by decide)
theorem EO:aN Tryz.prog 89 o6:=aL (X:=JV) (.cons jy jz (.cons lg kU (.cons Bo Bj (.cons Dp Dw (.nil _))))) (by kernel_rfl) o6 Gs none (by kernel_rfl) (fun x y h=>(PD x).trans h)
def IE:List (Nat×Ann):=[(4,⟨[(2,.ref 2 0),(4,.ref 4 0),(6,.ref 6 0),(7,.val .bool),(8,.ref 8 0),(20,.val (.slice iy)),(21,.val tI),(22,.val tI)],[(2,Of),(4,xu),(6,jN),(8,jN)],[],bf _⟩),
 (100008,⟨[(2,.ref 2 0),(4,.ref 4 0),(6,.ref 6 0),(7,.val .bool),(8,.ref 8 0),(11,.ref 11 0),(20,.val (.slice iy)),(21,.val tI),(22,.val tI)],[(2,Of),(4,xu),(6,jN),(8,jN),(11,jN)],[],fun _=>0⟩),
 (200004,⟨[(4,.ref 4 0),(7,.val .bool),(8,.ref 8 0)],[(4,xu),(8,jN)],[],fun _=>0⟩)]
noncomputable def x5:aM:=⟨[.val b7,.val jA],[.val ai,.val .bool],fun x=>HD x.1 x.2.1⟩
noncomputable def LU:Cx:=⟨Tryz.prog,[(71,cg),(74,jt),(87,ua),(88,mN),(89,o6)]⟩
theorem Qt:∀ x,bg LU IE none Tryz.f36 x5 x=x5.m x:=by intro x;kernel_rfl
theorem RL:aB Tryz.prog 36:=av (fn:=Tryz.f36) (by kernel_rfl) rfl (by decide)
theorem RR:aN Tryz.prog 36 x5:=aL (X:=LU) (.cons fe eY (.cons o7 pn (.cons PE Pv (.cons DU EP (.cons EO Ei (.nil _)))))) (by kernel_rfl) x5 IE none (by kernel_rfl) (fun x y h=>(Qt x).trans h)
def uN:List (Nat×Ann):=[]
noncomputable def jJ:aM:=⟨[.val ai],[.val .bool],fun x=>tE x.1⟩
noncomputable def wR:Cx:=⟨Tryz.prog,[(74,jt)]⟩
theorem EH:∀ x,bg wR uN none Tryz.f125 jJ x=jJ.m x:=by intro x;kernel_rfl
theorem Fa:aB Tryz.prog 125:=av (fn:=Tryz.f125) (by kernel_rfl) rfl (by decide)
theorem E5:aN Tryz.prog 125 jJ:=aL (X:=wR) (.cons o7 pn (.nil _)) (by kernel_rfl) jJ uN none (by kernel_rfl) (fun x y h=>(EH x).trans h)
def wP:List (Nat×Ann):=[]
noncomputable def kY:aM:=⟨[.val ai],[.val .bool],fun x=>vp x.1⟩
noncomputable def zq:Cx:=⟨Tryz.prog,[(74,jt)]⟩
theorem F4:∀ x,bg zq wP none Tryz.f130 kY x=kY.m x:=by intro x;kernel_rfl
theorem Hg:aB Tryz.prog 130:=av (fn:=Tryz.f130) (by kernel_rfl) rfl (by decide)
theorem GS:aN Tryz.prog 130 kY:=aL (X:=zq) (.cons o7 pn (.nil _)) (by kernel_rfl) kY wP none (by kernel_rfl) (fun x y h=>(F4 x).trans h)
def zl:List (Nat×Ann):=[]
noncomputable def mo:aM:=⟨[.val ai],[.val .bool],fun x=>yR x.1⟩
noncomputable def AZ:Cx:=⟨Tryz.prog,[(74,jt)]⟩
theorem IB:∀ x,bg AZ zl none Tryz.f131 mo x=mo.m x:=by intro x;kernel_rfl
theorem I8:aB Tryz.prog 131:=av (fn:=Tryz.f131) (by kernel_rfl) rfl (by decide)
theorem Je:aN Tryz.prog 131 mo:=aL (X:=AZ) (.cons o7 pn (.nil _)) (by kernel_rfl) mo zl none (by kernel_rfl) (fun x y h=>(IB x).trans h)
def vh:List (Nat×Ann):=[]
noncomputable def j4:aM:=⟨[.val ai],[.val .bool],fun x=>uz x.1⟩
noncomputable def xV:Cx:=⟨Tryz.prog,[(74,jt)]⟩
theorem E3:∀ x,bg xV vh none Tryz.f73 j4 x=j4.m x:=by intro x;kernel_rfl
theorem F0:aB Tryz.prog 73:=av (fn:=Tryz.f73) (by kernel_rfl) rfl (by decide)
theorem FU:aN Tryz.prog 73 j4:=aL (X:=xV) (.cons o7 pn (.nil _)) (by kernel_rfl) j4 vh none (by kernel_rfl) (fun x y h=>(E3 x).trans h)
def pS:List (Nat×Ann):=[(2,⟨[(0,.val (.slice ai)),(1,.val (.clo 125 .unit)),(7,.val tI),(8,.val tI)],[],[],bf _⟩),
 (200002,⟨[],[],[],fun _=>0⟩)]
noncomputable def gB:aM:=⟨[.val (.slice ai),.val (.clo 125 .unit)],[.val tI],fun x=>nV x.1 x.2.1⟩
noncomputable def qZ:Cx:=⟨Tryz.prog,[(125,jJ)]⟩
theorem zE:∀ x,bg qZ pS none Tryz.f136 gB x=gB.m x:=by intro x;kernel_rfl
theorem AJ:aB Tryz.prog 136:=av (fn:=Tryz.f136) (by kernel_rfl) rfl (by decide)
theorem AF:aN Tryz.prog 136 gB:=aL (X:=qZ) (.cons E5 Fa (.nil _)) (by kernel_rfl) gB pS none (by kernel_rfl) (fun x y h=>(zE x).trans h)
def oN:List (Nat×Ann):=[(2,⟨[(0,.val (.slice ai)),(1,.val (.clo 130 .unit)),(7,.val tI),(8,.val tI)],[],[],bf _⟩),
 (200002,⟨[],[],[],fun _=>0⟩)]
noncomputable def fB:aM:=⟨[.val (.slice ai),.val (.clo 130 .unit)],[.val tI],fun x=>mJ x.1 x.2.1⟩
noncomputable def pX:Cx:=⟨Tryz.prog,[(130,kY)]⟩
theorem yC:∀ x,bg pX oN none Tryz.f136 fB x=fB.m x:=by intro x;kernel_rfl
theorem zy:aB Tryz.prog 136:=av (fn:=Tryz.f136) (by kernel_rfl) rfl (by decide)
theorem zz:aN Tryz.prog 136 fB:=aL (X:=pX) (.cons GS Hg (.nil _)) (by kernel_rfl) fB oN none (by kernel_rfl) (fun x y h=>(yC x).trans h)
def oO:List (Nat×Ann):=[(2,⟨[(0,.val (.slice ai)),(1,.val (.clo 131 .unit)),(7,.val tI),(8,.val tI)],[],[],bf _⟩),
 (200002,⟨[],[],[],fun _=>0⟩)]
noncomputable def fq:aM:=⟨[.val (.slice ai),.val (.clo 131 .unit)],[.val tI],fun x=>mQ x.1 x.2.1⟩
noncomputable def pT:Cx:=⟨Tryz.prog,[(131,mo)]⟩
theorem yH:∀ x,bg pT oO none Tryz.f136 fq x=fq.m x:=by intro x;kernel_rfl
theorem zu:aB Tryz.prog 136:=av (fn:=Tryz.f136) (by kernel_rfl) rfl (by decide)
theorem zC:aN Tryz.prog 136 fq:=aL (X:=pT) (.cons Je I8 (.nil _)) (by kernel_rfl) fq oO none (by kernel_rfl) (fun x y h=>(yH x).trans h)
def oU:List (Nat×Ann):=[(2,⟨[(0,.val (.slice ai)),(1,.val (.clo 73 .unit)),(7,.val tI),(8,.val tI)],[],[],bf _⟩),
 (200002,⟨[],[],[],fun _=>0⟩)]
noncomputable def fm:aM:=⟨[.val (.slice ai),.val (.clo 73 .unit)],[.val tI],fun x=>mI x.1 x.2.1⟩
noncomputable def pU:Cx:=⟨Tryz.prog,[(73,j4)]⟩
theorem yQ:∀ x,bg pU oU none Tryz.f136 fm x=fm.m x:=by intro x;kernel_rfl
theorem zx:aB Tryz.prog 136:=av (fn:=Tryz.f136) (by kernel_rfl) rfl (by decide)
theorem zB:aN Tryz.prog 136 fm:=aL (X:=pU) (.cons FU F0 (.nil _)) (by kernel_rfl) fm oU none (by kernel_rfl) (fun x y h=>(yQ x).trans h)
def oA:List (Nat×Ann):=[]
noncomputable def eI:aM:=⟨[.val (.slice ai),.val (.clo 125 .unit)],[.val .bool],fun x=>jr x.1 x.2.1⟩
noncomputable def oW:Cx:=⟨Tryz.prog,[(136,gB)]⟩
theorem xX:∀ x,bg oW oA none Tryz.f72 eI x=eI.m x:=by intro x;kernel_rfl
theorem yx:aB Tryz.prog 72:=av (fn:=Tryz.f72) (by kernel_rfl) rfl (by decide)
theorem yB:aN Tryz.prog 72 eI:=aL (X:=oW) (.cons AF AJ (.nil _)) (by kernel_rfl) eI oA none (by kernel_rfl) (fun x y h=>(xX x).trans h)
def nF:List (Nat×Ann):=[]
noncomputable def dO:aM:=⟨[.val (.slice ai),.val (.clo 130 .unit)],[.val .bool],fun x=>bO x.1 x.2.1⟩
noncomputable def oE:Cx:=⟨Tryz.prog,[(136,fB)]⟩
theorem wA:∀ x,bg oE nF none Tryz.f72 dO x=dO.m x:=by intro x;kernel_rfl
theorem w9:aB Tryz.prog 72:=av (fn:=Tryz.f72) (by kernel_rfl) rfl (by decide)
theorem xw:aN Tryz.prog 72 dO:=aL (X:=oE) (.cons zz zy (.nil _)) (by kernel_rfl) dO nF none (by kernel_rfl) (fun x y h=>(wA x).trans h)
def nj:List (Nat×Ann):=[]
noncomputable def dM:aM:=⟨[.val (.slice ai),.val (.clo 131 .unit)],[.val .bool],fun x=>iN x.1 x.2.1⟩
noncomputable def n7:Cx:=⟨Tryz.prog,[(136,fq)]⟩
theorem wC:∀ x,bg n7 nj none Tryz.f72 dM x=dM.m x:=by intro x;kernel_rfl
theorem xd:aB Tryz.prog 72:=av (fn:=Tryz.f72) (by kernel_rfl) rfl (by decide)
theorem wY:aN Tryz.prog 72 dM:=aL (X:=n7) (.cons zC zu (.nil _)) (by kernel_rfl) dM nj none (by kernel_rfl) (fun x y h=>(wC x).trans h)
def nt:List (Nat×Ann):=[]
noncomputable def dL:aM:=⟨[.val (.slice ai),.val (.clo 73 .unit)],[.val .bool],fun x=>iM x.1 x.2.1⟩
noncomputable def oq:Cx:=⟨Tryz.prog,[(136,fm)]⟩
theorem wj:∀ x,bg oq nt none Tryz.f72 dL x=dL.m x:=by intro x;kernel_rfl
theorem xe:aB Tryz.prog 72:=av (fn:=Tryz.f72) (by kernel_rfl) rfl (by decide)
theorem wW:aN Tryz.prog 72 dL:=aL (X:=oq) (.cons zB zx (.nil _)) (by kernel_rfl) dL nt none (by kernel_rfl) (fun x y h=>(wj x).trans h)
def sV:List (Nat×Ann):=[]
noncomputable def jb:aM:=⟨[.val (.slice ai)],[.row 135 ai],fun x=>m8 x.1⟩
noncomputable def uU:Cx:=⟨Tryz.prog,[]⟩
theorem C6:∀ x,bg uU sV none Tryz.f126 jb x=jb.m x:=by intro x;kernel_rfl
theorem DK:aB Tryz.prog 126:=av (fn:=Tryz.f126) (by kernel_rfl) rfl (by decide)
theorem Dz:aN Tryz.prog 126 jb:=aL (X:=uU) (.nil _) (by kernel_rfl) jb sV none (by kernel_rfl) (fun x y h=>(C6 x).trans h)
def wS:List (Nat×Ann):=[(4,⟨[(0,.ref 2000 0),(30,.val (.slice jA)),(31,.val tI),(32,.val tI)],[(2000,VG)],[.rowC 19 135 ai,.rowC 21 4 .bool,.rowC 10250004 135 ai,.rowC 10250006 135 ai,.rowC 10250008 135 ai],bf _⟩),
 (200004,⟨[(0,.ref 2000 0)],[(2000,VG)],[.rowC 19 135 ai,.rowC 21 4 .bool,.rowC 10250004 135 ai,.rowC 10250006 135 ai,.rowC 10250008 135 ai],fun _=>0⟩)]
noncomputable def lu:aM:=⟨[.box [.val b7,.row 135 ai,.val (.slice ai),.row 135 ai,.row 186 cJ,.row 135 ai,.row 4 .bool,.row 135 ai]],[.val tI],fun x=>ng x.1⟩
noncomputable def ze:Cx:=⟨Tryz.prog,[(36,x5),(71,cg),(72,eI),(124,mR),(126,jb)]⟩
theorem Gc:∀ x,bg ze wS none Tryz.f67 lu x=lu.m x:=by intro x;kernel_rfl
theorem GK:aB Tryz.prog 67:=av (fn:=Tryz.f67) (by kernel_rfl) rfl (by decide)
theorem GJ:aN Tryz.prog 67 lu:=aL (X:=ze) (.cons RR RL (.cons fe eY (.cons yB yx (.cons Be Bg (.cons Dz DK (.nil _)))))) (by kernel_rfl) lu wS none (by kernel_rfl) (fun x y h=>(Gc x).trans h)
def yY:List (Nat×Ann):=[]
noncomputable def jY:aM:=⟨[.box [.val b7,.row 135 ai,.val (.slice ai),.row 135 ai,.row 186 cJ,.row 135 ai,.row 4 .bool,.row 135 ai],.val tI,.val ai],[],fun x=>gw x.1 x.2.1 x.2.2.1⟩
noncomputable def AY:Cx:=⟨Tryz.prog,[(71,cg)]⟩
theorem Io:∀ x,bg AY yY none Tryz.f128 jY x=jY.m x:=by intro x;kernel_rfl
theorem A2:aB Tryz.prog 128:=av (fn:=Tryz.f128) (by kernel_rfl) rfl (by decide)
theorem AO:aN Tryz.prog 128 jY:=aL (X:=AY) (.cons fe eY (.nil _)) (by kernel_rfl) jY yY none (by kernel_rfl) (fun x y h=>(Io x).trans h)
def B9:List (Nat×Ann):=[]
noncomputable def pe:aM:=⟨[.val ai],[.val ai],fun x=>yf x.1⟩
noncomputable def Ev:Cx:=⟨Tryz.prog,[(132,jx)]⟩
theorem Lo:∀ x,bg Ev B9 none Tryz.f186 pe x=pe.m x:=by intro x;kernel_rfl
theorem L4:aB Tryz.prog 186:=av (fn:=Tryz.f186) (by kernel_rfl) rfl (by decide)
theorem ME:aN Tryz.prog 186 pe:=aL (X:=Ev) (.cons qb p6 (.nil _)) (by kernel_rfl) pe B9 none (by kernel_rfl) (fun x y h=>(Lo x).trans h)
def vm:List (Nat×Ann):=[]
noncomputable def ko:aM:=⟨[.val tI],[.val .bool],fun x=>uD x.1⟩
noncomputable def xy:Cx:=⟨Tryz.prog,[]⟩
theorem E2:∀ x,bg xy vm none Tryz.f188 ko x=ko.m x:=by intro x;kernel_rfl
theorem Gl:aB Tryz.prog 188:=av (fn:=Tryz.f188) (by kernel_rfl) rfl (by decide)
theorem FZ:aN Tryz.prog 188 ko:=aL (X:=xy) (.nil _) (by kernel_rfl) ko vm none (by kernel_rfl) (fun x y h=>(E2 x).trans h)
def uI:List (Nat×Ann):=[(2,⟨[(0,.val (.slice tI)),(1,.val (.clo 188 .unit)),(7,.val tI),(8,.val tI)],[],[],bf _⟩),
 (200002,⟨[],[],[],fun _=>0⟩)]
noncomputable def jL:aM:=⟨[.val (.slice tI),.val (.clo 188 .unit)],[.val tI],fun x=>sW x.1 x.2.1⟩
noncomputable def wQ:Cx:=⟨Tryz.prog,[(188,ko)]⟩
theorem Ek:∀ x,bg wQ uI none Tryz.f217 jL x=jL.m x:=by intro x;kernel_rfl
theorem E6:aB Tryz.prog 217:=av (fn:=Tryz.f217) (by kernel_rfl) rfl (by decide)
theorem E7:aN Tryz.prog 217 jL:=aL (X:=wQ) (.cons FZ Gl (.nil _)) (by kernel_rfl) jL uI none (by kernel_rfl) (fun x y h=>(Ek x).trans h)
def rZ:List (Nat×Ann):=[]
noncomputable def iK:aM:=⟨[.val (.slice tI),.val (.clo 188 .unit)],[.val .bool],fun x=>jK x.1 x.2.1⟩
noncomputable def uh:Cx:=⟨Tryz.prog,[(217,jL)]⟩
theorem CF:∀ x,bg uh rZ none Tryz.f187 iK x=iK.m x:=by intro x;kernel_rfl
theorem C5:aB Tryz.prog 187:=av (fn:=Tryz.f187) (by kernel_rfl) rfl (by decide)
theorem CW:aN Tryz.prog 187 iK:=aL (X:=uh) (.cons E7 E6 (.nil _)) (by kernel_rfl) iK rZ none (by kernel_rfl) (fun x y h=>(CF x).trans h)
def Eh:List (Nat×Ann):=[]
noncomputable def kP:aM:=⟨[.val ai,.val tI],[.val aZ,.val tI],fun x=>lI x.1 x.2.1⟩
noncomputable def GX:Cx:=⟨Tryz.prog,[(137,jw)]⟩
theorem MV:∀ x,bg GX Eh none Tryz.f86 kP x=kP.m x:=by intro x;kernel_rfl
theorem wB:aB Tryz.prog 86:=av (fn:=Tryz.f86) (by kernel_rfl) rfl (by decide)
theorem we:aN Tryz.prog 86 kP:=aL (X:=GX) (.cons tN tj (.nil _)) (by kernel_rfl) kP Eh none (by kernel_rfl) (fun x y h=>(MV x).trans h)
def vY:List (Nat×Ann):=[(7,⟨[(3,.val tI),(12,.val (.slice tI)),(13,.val tI),(14,.val tI)],[],[],bf _⟩),
 (200007,⟨[(3,.val tI)],[],[],fun _=>0⟩)]
noncomputable def kz:aM:=⟨[.val (.slice tI)],[.val tI],fun x=>pO x.1⟩
noncomputable def x2:Cx:=⟨Tryz.prog,[(39,fN)]⟩
theorem E8:∀ x,bg x2 vY none Tryz.f218 kz x=kz.m x:=by intro x;kernel_rfl
theorem FM:aB Tryz.prog 218:=av (fn:=Tryz.f218) (by kernel_rfl) rfl (by decide)
theorem Gm:aN Tryz.prog 218 kz:=aL (X:=x2) (.cons lA lf (.nil _)) (by kernel_rfl) kz vY none (by kernel_rfl) (fun x y h=>(E8 x).trans h)
def zO:List (Nat×Ann):=[]
noncomputable def kZ:aM:=⟨[.val aT,.val aT],[.val tI],fun x=>lK x.1 x.2.1⟩
noncomputable def Cm:Cx:=⟨Tryz.prog,[(116,jD)]⟩
theorem Jf:∀ x,bg Cm zO none Tryz.f220 kZ x=kZ.m x:=by intro x;kernel_rfl
theorem CD:aB Tryz.prog 220:=av (fn:=Tryz.f220) (by kernel_rfl) rfl (by decide)
theorem Cp:aN Tryz.prog 220 kZ:=aL (X:=Cm) (.cons zT Ai (.nil _)) (by kernel_rfl) kZ zO none (by kernel_rfl) (fun x y h=>(Jf x).trans h)
def jS:List (Nat×Ann):=[(1,⟨[(0,.rowR 10250000),(1,.val tI),(2,.val tI),(3,.val (.clo 220 .unit)),(8,.val tI)],[],[.rowC 10250000 261 aT],bf _⟩),
 (4,⟨[(0,.rowR 10250000),(1,.val tI),(2,.val tI),(3,.val (.clo 220 .unit)),(8,.val tI),(9,.val tI)],[],[.rowC 10250000 261 aT],bf _⟩),
 (200001,⟨[],[],[.rowC 10250000 261 aT],fun _=>0⟩),
 (200004,⟨[(0,.rowR 10250000),(1,.val tI),(2,.val tI),(3,.val (.clo 220 .unit)),(8,.val tI)],[],[.rowC 10250000 261 aT],fun _=>0⟩)]
noncomputable def b9:aM:=⟨[.mrow 261 aT,.val tI,.val tI,.val (.clo 220 .unit)],[],fun x=>cz x.1 x.2.1 x.2.2.1 x.2.2.2.1⟩
noncomputable def kI:Cx:=⟨Tryz.prog,[(220,kZ)]⟩
theorem qS:∀ x,bg kI jS none Tryz.f241 b9 x=b9.m x:=by intro x;kernel_rfl
theorem q8:aB Tryz.prog 241:=av (fn:=Tryz.f241) (by kernel_rfl) rfl (by decide)
theorem q9:aN Tryz.prog 241 b9:=aL (X:=kI) (.cons Cp CD (.nil _)) (by kernel_rfl) b9 jS none (by kernel_rfl) (fun x y h=>(qS x).trans h)
def lH:List (Nat×Ann):=[(1,⟨[(0,.rowR 10250000),(1,.val tI),(2,.val tI),(3,.val tI),(10,.val tI)],[],[.rowC 10250000 261 aT],bf _⟩),
 (200001,⟨[],[],[.rowC 10250000 261 aT],fun _=>0⟩)]
noncomputable def cG:aM:=⟨[.mrow 261 aT,.val tI,.val tI,.val tI,.val (.clo 220 .unit)],[],fun x=>cn x.1 x.2.1 x.2.2.1 x.2.2.2.1 x.2.2.2.2.1⟩
noncomputable def me:Cx:=⟨Tryz.prog,[]⟩
theorem tc:∀ x,bg me lH none Tryz.f244 cG x=cG.m x:=by intro x;kernel_rfl
theorem tV:aB Tryz.prog 244:=av (fn:=Tryz.f244) (by kernel_rfl) rfl (by decide)
theorem ug:aN Tryz.prog 244 cG:=aL (X:=me) (.nil _) (by kernel_rfl) cG lH none (by kernel_rfl) (fun x y h=>(tc x).trans h)
def mB:List (Nat×Ann):=[(2,⟨[(0,.rowR 10250000),(2,.val tI),(4,.val (.clo 220 .unit)),(10,.val tI),(11,.val tI)],[],[.rowC 10250000 261 aT],bf _⟩),
 (200002,⟨[(0,.rowR 10250000),(2,.val tI),(4,.val (.clo 220 .unit)),(10,.val tI)],[],[.rowC 10250000 261 aT],fun _=>0⟩)]
noncomputable def cV:aM:=⟨[.mrow 261 aT,.val tI,.val tI,.val tI,.val (.clo 220 .unit)],[],fun x=>iw x.1 x.2.1 x.2.2.1 x.2.2.2.1 x.2.2.2.2.1⟩
noncomputable def nD:Cx:=⟨Tryz.prog,[(244,cG)]⟩
theorem uX:∀ x,bg nD mB none Tryz.f243 cV x=cV.m x:=by intro x;kernel_rfl
theorem vW:aB Tryz.prog 243:=av (fn:=Tryz.f243) (by kernel_rfl) rfl (by decide)
theorem vu:aN Tryz.prog 243 cV:=aL (X:=nD) (.cons ug tV (.nil _)) (by kernel_rfl) cV mB none (by kernel_rfl) (fun x y h=>(uX x).trans h)
def lN:List (Nat×Ann):=[(3,⟨[(0,.rowR 10250000),(1,.val tI),(4,.val (.clo 220 .unit)),(10,.val tI),(11,.val tI)],[],[.rowC 10250000 261 aT],bf _⟩),
 (9,⟨[(0,.rowR 10250000),(10,.val tI),(13,.val tI)],[],[.rowC 10250000 261 aT],bf _⟩),
 (15,⟨[(0,.rowR 10250000),(2,.val tI),(4,.val (.clo 220 .unit)),(14,.val tI),(15,.val tI)],[],[.rowC 10250000 261 aT],bf _⟩),
 (21,⟨[(0,.rowR 10250000),(14,.val tI),(17,.val tI)],[],[.rowC 10250000 261 aT],bf _⟩),
 (33,⟨[(0,.rowR 10250000),(1,.val tI),(2,.val tI),(3,.val tI),(4,.val (.clo 220 .unit)),(18,.val tI),(19,.val tI),(20,.val tI),(21,.val tI),(22,.val tI)],[],[.rowC 10250000 261 aT],bf _⟩),
 (100030,⟨[(0,.rowR 10250000),(1,.val tI),(2,.val tI),(3,.val tI),(4,.val (.clo 220 .unit)),(18,.val tI),(19,.val tI),(20,.val tI),(21,.val tI)],[],[.rowC 10250000 261 aT],fun _=>0⟩),
 (100040,⟨[(0,.rowR 10250000),(1,.val tI),(3,.val tI),(4,.val (.clo 220 .unit)),(18,.val tI),(20,.val tI),(24,.val tI)],[],[.rowC 10250000 261 aT],fun _=>0⟩),
 (100042,⟨[(0,.rowR 10250000),(3,.val tI),(4,.val (.clo 220 .unit)),(18,.val tI),(24,.val tI)],[],[.rowC 10250000 261 aT],fun _=>0⟩),
 (200003,⟨[(0,.rowR 10250000),(1,.val tI),(10,.val tI)],[],[.rowC 10250000 261 aT],fun _=>0⟩),
 (200009,⟨[],[],[.rowC 10250000 261 aT],fun _=>0⟩),
 (200015,⟨[(0,.rowR 10250000),(2,.val tI),(14,.val tI)],[],[.rowC 10250000 261 aT],fun _=>0⟩),
 (200021,⟨[],[],[.rowC 10250000 261 aT],fun _=>0⟩),
 (200033,⟨[(0,.rowR 10250000),(1,.val tI),(2,.val tI),(3,.val tI),(4,.val (.clo 220 .unit)),(18,.val tI),(19,.val tI),(20,.val tI)],[],[.rowC 10250000 261 aT],fun _=>0⟩)]
def bJ:List PM:=[.mrow 261 aT,.val tI,.val tI,.val tI,.val (.clo 220 .unit)]
def bX:List RM:=[]
noncomputable def l9:List (Nat×aM):=[(220,kZ),(243,cV)]
noncomputable def mA:aM:=⟨bJ,bX,fun x=>dw x.1 x.2.1 x.2.2.1 x.2.2.2.1 x.2.2.2.2.1⟩
theorem tW:∀ (self:gO bJ→Option (dx bJ bX)) (x:gO bJ),bg ⟨Tryz.prog,(242,⟨bJ,bX,self⟩)::l9⟩ lN none Tryz.f242 ⟨bJ,bX,fun x=>bR self x.1 x.2.1 x.2.2.1 x.2.2.2.1 x.2.2.2.2.1⟩ x=bR self x.1 x.2.1 x.2.2.1 x.2.2.2.1 x.2.2.2.2.1:=by intro self x;kernel_rfl
theorem mE:aB Tryz.prog 242:=av (fn:=Tryz.f242) (by kernel_rfl) rfl (by decide)
theorem uG:aN Tryz.prog 242 mA:=LL (ps:=bJ) (rs:=bX) (m:=fun n x=>w7 (fun self x=>bR self x.1 x.2.1 x.2.2.1 x.2.2.2.1 x.2.2.2.2.1) n x) (Il (P:=Tryz.prog) (specs:=l9) (ps:=bJ) (rs:=bX) (.cons Cp CD (.cons vu vW (.nil _))) (by kernel_rfl) (fun self x=>bR self x.1 x.2.1 x.2.2.1 x.2.2.2.1 x.2.2.2.2.1) lN none (by kernel_rfl) mE tW) (fun x=>iG x.1 x.2.1 x.2.2.1 x.2.2.2.1 x.2.2.2.2.1)
def mq:List (Nat×Ann):=[(2,⟨[(0,.rowR 10250000),(1,.val tI),(2,.val (.clo 220 .unit)),(6,.val tI),(7,.val tI),(8,.val tI)],[],[.rowC 10250000 261 aT],bf _⟩),
 (7,⟨[(0,.rowR 10250000),(1,.val tI),(2,.val (.clo 220 .unit)),(6,.val tI)],[],[.rowC 10250000 261 aT],bf _⟩),
 (9,⟨[(0,.rowR 10250000),(1,.val tI),(2,.val (.clo 220 .unit)),(6,.val tI),(7,.val tI),(8,.val tI)],[],[.rowC 10250000 261 aT],bf _⟩),
 (200002,⟨[(0,.rowR 10250000),(1,.val tI),(2,.val (.clo 220 .unit)),(6,.val tI),(7,.val tI)],[],[.rowC 10250000 261 aT],fun _=>0⟩),
 (200007,⟨[],[],[.rowC 10250000 261 aT],fun _=>0⟩),
 (200009,⟨[(0,.rowR 10250000),(1,.val tI),(2,.val (.clo 220 .unit)),(6,.val tI),(7,.val tI)],[],[.rowC 10250000 261 aT],fun _=>0⟩)]
noncomputable def cX:aM:=⟨[.mrow 261 aT,.val tI,.val (.clo 220 .unit)],[],fun x=>j6 x.1 x.2.1 x.2.2.1⟩
noncomputable def nw:Cx:=⟨Tryz.prog,[(241,b9),(242,mA)]⟩
theorem uY:∀ x,bg nw mq none Tryz.f234 cX x=cX.m x:=by intro x;kernel_rfl
theorem u7:aB Tryz.prog 234:=av (fn:=Tryz.f234) (by kernel_rfl) rfl (by decide)
theorem vt:aN Tryz.prog 234 cX:=aL (X:=nw) (.cons q9 q8 (.cons uG mE (.nil _))) (by kernel_rfl) cX mq none (by kernel_rfl) (fun x y h=>(uY x).trans h)
def mc:List (Nat×Ann):=[]
noncomputable def cQ:aM:=⟨[.mrow 261 aT,.val (.clo 220 .unit)],[],fun x=>dN x.1 x.2.1⟩
noncomputable def mT:Cx:=⟨Tryz.prog,[(234,cX)]⟩
theorem uA:∀ x,bg mT mc none Tryz.f219 cQ x=cQ.m x:=by intro x;kernel_rfl
theorem u0:aB Tryz.prog 219:=av (fn:=Tryz.f219) (by kernel_rfl) rfl (by decide)
theorem uW:aN Tryz.prog 219 cQ:=aL (X:=mT) (.cons vt u7 (.nil _)) (by kernel_rfl) cQ mc none (by kernel_rfl) (fun x y h=>(uA x).trans h)
def Cz:List (Nat×Ann):=[(9,⟨[(1,.val (.slice tI)),(2,.ref 2 0),(8,.val tI),(33,.val (.slice tI)),(34,.val tI),(35,.val tI)],[(2,Ea)],[],bf _⟩),
 (17,⟨[(2,.ref 2 0),(8,.val tI),(11,.val tI),(12,.val tI),(13,.own 261 aT),(50,.val (.slice tI)),(51,.val tI),(52,.val tI)],[(2,Ea)],[],bf _⟩),
 (27,⟨[(2,.ref 2 0),(12,.val tI),(20,.rowR 88),(89,.own 261 aT),(90,.val tI),(91,.val tI)],[(2,Ea)],[.rowC 88 33 aZ],bf _⟩),
 (100030,⟨[(2,.ref 2 0),(12,.val tI),(20,.rowR 88),(22,.ref 22 0),(89,.own 261 aT),(90,.val tI),(91,.val tI)],[(2,Ea),(22,[.val tI,.val tI,.val .bool,.val (.slice (.int .u32))])],[.rowC 88 33 aZ],fun _=>0⟩),
 (100032,⟨[(2,.ref 2 0),(12,.val tI),(20,.rowR 88),(22,.ref 22 0),(89,.own 261 aT),(90,.val tI),(91,.val tI)],[(2,Ea),(22,[.val tI,.val tI,.val .bool,.val (.slice (.int .u32))])],[.rowC 88 33 aZ],fun _=>0⟩),
 (200009,⟨[(1,.val (.slice tI)),(2,.ref 2 0),(8,.val tI)],[(2,Ea)],[],fun _=>0⟩),
 (200017,⟨[(2,.ref 2 0),(12,.val tI),(13,.own 261 aT)],[(2,Ea)],[],fun _=>0⟩),
 (200027,⟨[(20,.rowR 88)],[],[.rowC 88 33 aZ],fun _=>0⟩)]
noncomputable def oX:aM:=⟨[.val aZ,.val (.slice tI)],[.val (.slice aZ),.val tI],fun x=>ud x.1 x.2.1⟩
noncomputable def EM:Cx:=⟨Tryz.prog,[(102,cy),(127,eZ),(137,jw),(143,dZ),(195,lT),(218,kz),(219,cQ)]⟩
theorem Lh:∀ x,bg EM Cz none Tryz.f189 oX x=oX.m x:=by intro x;kernel_rfl
theorem MB:aB Tryz.prog 189:=av (fn:=Tryz.f189) (by kernel_rfl) rfl (by decide)
theorem Mi:aN Tryz.prog 189 oX:=aL (X:=EM) (.cons iR iT (.cons jy jz (.cons tN tj (.cons lg kU (.cons Ay Aw (.cons Gm FM (.cons uW u0 (.nil _)))))))) (by kernel_rfl) oX Cz none (by kernel_rfl) (fun x y h=>(Lh x).trans h)
def xJ:List (Nat×Ann):=[(4,⟨[(0,.ref 2000 0),(3,.ref 3 0),(5,.own 3 tI),(6,.val .bool),(20,.val (.slice ai)),(21,.val tI),(22,.val tI)],[(3,jN),(2000,N2)],[.rowC 10250002 135 ai,.rowC 10250004 135 ai,.rowC 10250005 186 cJ,.rowC 10250006 135 ai,.rowC 10250007 4 .bool,.rowC 10250008 135 ai],bf _⟩),
 (21,⟨[(0,.ref 2000 0),(84,.val (.slice aZ)),(85,.val tI),(86,.val tI)],[(2000,Tf)],[],bf _⟩),
 (200004,⟨[(0,.ref 2000 0),(3,.ref 3 0),(5,.own 3 tI),(6,.val .bool)],[(3,jN),(2000,N2)],[.rowC 10250002 135 ai,.rowC 10250004 135 ai,.rowC 10250005 186 cJ,.rowC 10250006 135 ai,.rowC 10250007 4 .bool,.rowC 10250008 135 ai],fun _=>0⟩),
 (200021,⟨[],[(2000,Tf)],[],fun _=>0⟩)]
noncomputable def lP:aM:=⟨[.box [.val b7,.row 135 ai,.val (.slice ai),.row 135 ai,.row 186 cJ,.row 135 ai,.row 4 .bool,.row 135 ai],.val ai],[.val tI],fun x=>iW x.1 x.2.1⟩
noncomputable def zR:Cx:=⟨Tryz.prog,[(86,kP),(127,eZ),(128,jY),(137,jw),(158,gJ),(186,pe),(187,iK),(189,oX)]⟩
theorem HA:∀ x,bg zR xJ none Tryz.f129 lP x=lP.m x:=by intro x;kernel_rfl
theorem H8:aB Tryz.prog 129:=av (fn:=Tryz.f129) (by kernel_rfl) rfl (by decide)
theorem HC:aN Tryz.prog 129 lP:=aL (X:=zR) (.cons we wB (.cons jy jz (.cons AO A2 (.cons tN tj (.cons oc n6 (.cons ME L4 (.cons CW C5 (.cons Mi MB (.nil _))))))))) (by kernel_rfl) lP xJ none (by kernel_rfl) (fun x y h=>(HA x).trans h)
def zf:List (Nat×Ann):=[(6,⟨[(0,.ref 2000 0),(3,.ref 3 0),(5,.ref 5 0),(6,.val tI),(7,.val .bool),(35,.val (.slice ai)),(36,.val tI),(37,.val tI)],[(3,Ti),(5,jN),(2000,N2)],[.rowC 10250002 135 ai,.rowC 10250004 135 ai,.rowC 10250005 186 cJ,.rowC 10250006 135 ai,.rowC 10250007 4 .bool,.rowC 10250008 135 ai],bf _⟩),
 (100005,⟨[(0,.ref 2000 0),(3,.ref 3 0),(5,.ref 5 0),(6,.val tI),(7,.val .bool)],[(3,Ti),(5,jN),(2000,N2)],[.rowC 10250002 135 ai,.rowC 10250004 135 ai,.rowC 10250005 186 cJ,.rowC 10250006 135 ai,.rowC 10250007 4 .bool,.rowC 10250008 135 ai],fun _=>0⟩),
 (100012,⟨[(0,.ref 2000 0),(6,.val tI),(7,.val .bool),(10,.ref 10 0)],[(10,jN),(2000,N2)],[.rowC 10250002 135 ai,.rowC 10250004 135 ai,.rowC 10250005 186 cJ,.rowC 10250006 135 ai,.rowC 10250007 4 .bool,.rowC 10250008 135 ai],fun _=>0⟩),
 (200006,⟨[(0,.ref 2000 0),(3,.ref 3 0),(5,.ref 5 0),(6,.val tI),(7,.val .bool)],[(3,Ti),(5,jN),(2000,N2)],[.rowC 10250002 135 ai,.rowC 10250004 135 ai,.rowC 10250005 186 cJ,.rowC 10250006 135 ai,.rowC 10250007 4 .bool,.rowC 10250008 135 ai],fun _=>0⟩)]
noncomputable def mG:aM:=⟨[.box [.val b7,.row 135 ai,.val (.slice ai),.row 135 ai,.row 186 cJ,.row 135 ai,.row 4 .bool,.row 135 ai],.val iy],[.val tI],fun x=>mK x.1 x.2.1⟩
noncomputable def AQ:Cx:=⟨Tryz.prog,[(71,cg),(72,dO),(74,jt),(88,mN),(89,o6),(124,mR),(127,eZ),(128,jY),(129,lP)]⟩
theorem Iv:∀ x,bg AQ zf none Tryz.f68 mG x=mG.m x:=by intro x;kernel_rfl
theorem I7:aB Tryz.prog 68:=av (fn:=Tryz.f68) (by kernel_rfl) rfl (by decide)
theorem Ji:aN Tryz.prog 68 mG:=aL (X:=AQ) (.cons fe eY (.cons xw w9 (.cons o7 pn (.cons DU EP (.cons EO Ei (.cons Be Bg (.cons jy jz (.cons AO A2 (.cons HC H8 (.nil _)))))))))) (by kernel_rfl) mG zf none (by kernel_rfl) (fun x y h=>(Iv x).trans h)
def AN:List (Nat×Ann):=[(3,⟨[(0,.ref 2000 0),(20,.val (.slice iE)),(21,.val tI),(22,.val tI)],[(2000,SB)],[.rowC 13 135 ai,.rowC 10250002 135 ai,.rowC 10250004 135 ai,.rowC 10250005 186 cJ,.rowC 10250006 135 ai,.rowC 10250007 4 .bool],bf _⟩),
 (9,⟨[(0,.ref 2000 0),(57,.rowR 10250005),(58,.val tI),(59,.val tI)],[(2000,SB)],[.rowC 13 135 ai,.rowC 10250002 135 ai,.rowC 10250004 135 ai,.rowC 10250005 186 cJ,.rowC 10250006 135 ai,.rowC 10250007 4 .bool],bf _⟩),
 (200003,⟨[(0,.ref 2000 0)],[(2000,SB)],[.rowC 13 135 ai,.rowC 10250002 135 ai,.rowC 10250004 135 ai,.rowC 10250005 186 cJ,.rowC 10250006 135 ai,.rowC 10250007 4 .bool],fun _=>0⟩),
 (200009,⟨[(0,.ref 2000 0)],[(2000,SB)],[.rowC 13 135 ai,.rowC 10250002 135 ai,.rowC 10250004 135 ai,.rowC 10250005 186 cJ,.rowC 10250006 135 ai,.rowC 10250007 4 .bool],fun _=>0⟩)]
noncomputable def oB:aM:=⟨[.box [.val b7,.row 135 ai,.val (.slice ai),.row 135 ai,.row 186 cJ,.row 135 ai,.row 4 .bool,.row 135 ai]],[.val tI],fun x=>wL x.1⟩
noncomputable def Dv:Cx:=⟨Tryz.prog,[(71,cg),(72,dM),(89,o6)]⟩
theorem Ko:∀ x,bg Dv AN none Tryz.f69 oB x=oB.m x:=by intro x;kernel_rfl
theorem K8:aB Tryz.prog 69:=av (fn:=Tryz.f69) (by kernel_rfl) rfl (by decide)
theorem Lv:aN Tryz.prog 69 oB:=aL (X:=Dv) (.cons fe eY (.cons wY xd (.cons EO Ei (.nil _)))) (by kernel_rfl) oB AN none (by kernel_rfl) (fun x y h=>(Ko x).trans h)
def A4:List (Nat×Ann):=[(9,⟨[(5,.ref 18 0),(25,.val (.slice iy)),(26,.val tI),(27,.val tI)],[(18,Tf)],[.ar pM],bf _⟩),
 (200009,⟨[(5,.ref 18 0)],[(18,Tf)],[.ar pM],fun _=>0⟩)]
noncomputable def n9:aM:=⟨[.val b7,.ar pM],[.val .hnd,.val tI],fun x=>mO x.1 x.2.1⟩
noncomputable def Dq:Cx:=⟨Tryz.prog,[(37,lJ),(67,lu),(68,mG),(69,oB)]⟩
theorem JL:∀ x,bg Dq A4 none Tryz.f28 n9 x=n9.m x:=by intro x;kernel_rfl
theorem Lr:aB Tryz.prog 28:=av (fn:=Tryz.f28) (by kernel_rfl) rfl (by decide)
theorem Lb:aN Tryz.prog 28 n9:=aL (X:=Dq) (.cons Iy Ib (.cons GJ GK (.cons Ji I7 (.cons Lv K8 (.nil _))))) (by kernel_rfl) n9 A4 none (by kernel_rfl) (fun x y h=>(JL x).trans h)
def ID:List (Nat×Ann):=[(3,⟨[(2,.ref 2 0),(3,.ref 3 0),(7,.val (.slice ai)),(8,.val tI),(9,.val tI)],[(2,xu),(3,jN)],[],bf _⟩),
 (200003,⟨[(2,.ref 2 0),(3,.ref 3 0)],[(2,xu),(3,jN)],[],fun _=>0⟩)]
noncomputable def xH:aM:=⟨[.val (.slice ai)],[.val ai],fun x=>Bc x.1⟩
noncomputable def LP:Cx:=⟨Tryz.prog,[(71,cg),(127,eZ)]⟩
theorem P8:∀ x,bg LP ID none Tryz.f70 xH x=xH.m x:=by intro x;kernel_rfl
theorem Rk:aB Tryz.prog 70:=av (fn:=Tryz.f70) (by kernel_rfl) rfl (by decide)
theorem Rx:aN Tryz.prog 70 xH:=aL (X:=LP) (.cons fe eY (.cons jy jz (.nil _))) (by kernel_rfl) xH ID none (by kernel_rfl) (fun x y h=>(P8 x).trans h)
def As:List (Nat×Ann):=[]
noncomputable def nC:aM:=⟨[.val .hnd,.val ai,.arR pM],[.val aZ],fun x=>jT x.1 x.2.1 x.2.2.1⟩
noncomputable def Cq:Cx:=⟨Tryz.prog,[(86,kP)]⟩
theorem Jg:∀ x,bg Cq As none Tryz.f75 nC x=nC.m x:=by intro x;kernel_rfl
theorem KD:aB Tryz.prog 75:=av (fn:=Tryz.f75) (by kernel_rfl) rfl (by decide)
theorem J6:aN Tryz.prog 75 nC:=aL (X:=Cq) (.cons we wB (.nil _)) (by kernel_rfl) nC As none (by kernel_rfl) (fun x y h=>(Jg x).trans h)
def xQ:List (Nat×Ann):=[]
noncomputable def lQ:aM:=⟨[.val .hnd,.arR pM],[.val JX,.val tI],fun x=>ru x.1 x.2.1⟩
noncomputable def Ag:Cx:=⟨Tryz.prog,[(70,xH),(71,cg),(72,dL),(75,nC)]⟩
theorem Hv:∀ x,bg Ag xQ none Tryz.f29 lQ x=lQ.m x:=by intro x;kernel_rfl
theorem HZ:aB Tryz.prog 29:=av (fn:=Tryz.f29) (by kernel_rfl) rfl (by decide)
theorem Is:aN Tryz.prog 29 lQ:=aL (X:=Ag) (.cons Rx Rk (.cons fe eY (.cons wW xe (.cons J6 KD (.nil _))))) (by kernel_rfl) lQ xQ none (by kernel_rfl) (fun x y h=>(Hv x).trans h)
def D1:List (Nat×Ann):=[]
noncomputable def rT:aM:=⟨[.val b7],[.val JX,.val tI],fun x=>BU x.1⟩
noncomputable def Gz:Cx:=⟨Tryz.prog,[(28,n9),(29,lQ)]⟩
theorem NK:∀ x,bg Gz D1 (some pM) Tryz.f12 rT x=rT.m x:=by intro x;kernel_rfl
theorem Oq:aB Tryz.prog 12:=av (fn:=Tryz.f12) (by kernel_rfl) rfl (by decide)
theorem Oe:aN Tryz.prog 12 rT:=aL (X:=Gz) (.cons Lb Lr (.cons Is HZ (.nil _))) (by kernel_rfl) rT D1 (some pM) (by kernel_rfl) (fun x y h=>(NK x).trans h)
def nL:List (Nat×Ann):=[]
noncomputable def dX:aM:=⟨[.val .str,.val .str],[.val .bool],fun x=>qg x.1 x.2.1⟩
noncomputable def oQ:Cx:=⟨Tryz.prog,[]⟩
theorem wU:∀ x,bg oQ nL none Tryz.f202 dX x=dX.m x:=by intro x;kernel_rfl
theorem x8:aB Tryz.prog 202:=av (fn:=Tryz.f202) (by kernel_rfl) rfl (by decide)
theorem x3:aN Tryz.prog 202 dX:=aL (X:=oQ) (.nil _) (by kernel_rfl) dX nL none (by kernel_rfl) (fun x y h=>(wU x).trans h)
def nK:List (Nat×Ann):=[]
noncomputable def dU:aM:=⟨[.val .str,.val .str],[.val .str,.val .bool],fun x=>qL x.1 x.2.1⟩
noncomputable def oT:Cx:=⟨Tryz.prog,[(202,dX)]⟩
theorem w8:∀ x,bg oT nK none Tryz.f155 dU x=dU.m x:=by intro x;kernel_rfl
theorem xE:aB Tryz.prog 155:=av (fn:=Tryz.f155) (by kernel_rfl) rfl (by decide)
theorem xL:aN Tryz.prog 155 dU:=aL (X:=oT) (.cons x3 x8 (.nil _)) (by kernel_rfl) dU nK none (by kernel_rfl) (fun x y h=>(w8 x).trans h)
def xZ:List (Nat×Ann):=[]
noncomputable def lW:aM:=⟨[.val .str,.val .str],[.val .str,.val .bool],fun x=>Dk x.1 x.2.1⟩
noncomputable def Ah:Cx:=⟨Tryz.prog,[(155,dU)]⟩
theorem GC:∀ x,bg Ah xZ none Tryz.f96 lW x=lW.m x:=by intro x;kernel_rfl
theorem Ia:aB Tryz.prog 96:=av (fn:=Tryz.f96) (by kernel_rfl) rfl (by decide)
theorem IC:aN Tryz.prog 96 lW:=aL (X:=Ah) (.cons xL xE (.nil _)) (by kernel_rfl) lW xZ none (by kernel_rfl) (fun x y h=>(GC x).trans h)
def pW:List (Nat×Ann):=[]
noncomputable def gA:aM:=⟨[.val .str,.val .str],[.val tI],fun x=>tT x.1 x.2.1⟩
noncomputable def q7:Cx:=⟨Tryz.prog,[(227,kg)]⟩
theorem zK:∀ x,bg q7 pW none Tryz.f203 gA x=gA.m x:=by intro x;kernel_rfl
theorem AH:aB Tryz.prog 203:=av (fn:=Tryz.f203) (by kernel_rfl) rfl (by decide)
theorem AK:aN Tryz.prog 203 gA:=aL (X:=q7) (.cons xU xK (.nil _)) (by kernel_rfl) gA pW none (by kernel_rfl) (fun x y h=>(zK x).trans h)
def qY:List (Nat×Ann):=[]
noncomputable def iC:aM:=⟨[.val .str,.val .str],[.val .str,.val .str,.val .bool],fun x=>vL x.1 x.2.1⟩
noncomputable def sO:Cx:=⟨Tryz.prog,[(203,gA)]⟩
theorem Bv:∀ x,bg sO qY none Tryz.f156 iC x=iC.m x:=by intro x;kernel_rfl
theorem Ci:aB Tryz.prog 156:=av (fn:=Tryz.f156) (by kernel_rfl) rfl (by decide)
theorem Cv:aN Tryz.prog 156 iC:=aL (X:=sO) (.cons AK AH (.nil _)) (by kernel_rfl) iC qY none (by kernel_rfl) (fun x y h=>(Bv x).trans h)
def D6:List (Nat×Ann):=[]
noncomputable def rY:aM:=⟨[.val .str,.val .str],[.val .str,.val .str,.val .bool],fun x=>LW x.1 x.2.1⟩
noncomputable def GN:Cx:=⟨Tryz.prog,[(156,iC)]⟩
theorem MH:∀ x,bg GN D6 none Tryz.f97 rY x=rY.m x:=by intro x;kernel_rfl
theorem Oj:aB Tryz.prog 97:=av (fn:=Tryz.f97) (by kernel_rfl) rfl (by decide)
theorem On:aN Tryz.prog 97 rY:=aL (X:=GN) (.cons Cv Ci (.nil _)) (by kernel_rfl) rY D6 none (by kernel_rfl) (fun x y h=>(MH x).trans h)
def Et:List (Nat×Ann):=[(2,⟨[(0,.val .str),(1,.val (.int .u8)),(2,.val (.int .u8)),(9,.val tI),(10,.val tI)],[],[],bf _⟩),
 (200002,⟨[],[],[],fun _=>0⟩)]
noncomputable def sH:aM:=⟨[.val .str,.val (.int .u8),.val (.int .u8)],[.val .bool],fun x=>LS x.1 x.2.1 x.2.2.1⟩
noncomputable def Hh:Cx:=⟨Tryz.prog,[]⟩
theorem Nj:∀ x,bg Hh Et none Tryz.f157 sH x=sH.m x:=by intro x;kernel_rfl
theorem N1:aB Tryz.prog 157:=av (fn:=Tryz.f157) (by kernel_rfl) rfl (by decide)
theorem NQ:aN Tryz.prog 157 sH:=aL (X:=Hh) (.nil _) (by kernel_rfl) sH Et none (by kernel_rfl) (fun x y h=>(Nj x).trans h)
def Dm:List (Nat×Ann):=[]
noncomputable def nN:aM:=⟨[.val .str],[.val .bool],fun x=>EG x.1⟩
noncomputable def Fy:Cx:=⟨Tryz.prog,[(157,sH)]⟩
theorem Mj:∀ x,bg Fy Dm none Tryz.f99 nN x=nN.m x:=by intro x;kernel_rfl
theorem Fe:aB Tryz.prog 99:=av (fn:=Tryz.f99) (by kernel_rfl) rfl (by decide)
theorem Fc:aN Tryz.prog 99 nN:=aL (X:=Fy) (.cons NQ N1 (.nil _)) (by kernel_rfl) nN Dm none (by kernel_rfl) (fun x y h=>(Mj x).trans h)
def AV:List (Nat×Ann):=[]
noncomputable def oC:aM:=⟨[.val .str],[.val .bool],fun x=>GU x.1⟩
noncomputable def Dh:Cx:=⟨Tryz.prog,[(99,nN)]⟩
theorem Kj:∀ x,bg Dh AV none Tryz.f98 oC x=oC.m x:=by intro x;kernel_rfl
theorem Ll:aB Tryz.prog 98:=av (fn:=Tryz.f98) (by kernel_rfl) rfl (by decide)
theorem Lt:aN Tryz.prog 98 oC:=aL (X:=Dh) (.cons Fc Fe (.nil _)) (by kernel_rfl) oC AV none (by kernel_rfl) (fun x y h=>(Kj x).trans h)
def EJ:List (Nat×Ann):=[(3,⟨[(0,.val .bool),(1,.val .str),(2,.val .str),(6,.ref 6 0),(8,.ref 8 0),(14,.val tI),(15,.val tI)],[(6,Ea),(8,jN)],[],bf _⟩),
 (200003,⟨[(0,.val .bool),(2,.val .str),(6,.ref 6 0),(8,.ref 8 0)],[(6,Ea),(8,jN)],[],fun _=>0⟩)]
noncomputable def sr:aM:=⟨[.val .bool,.val .str,.val .str],[.val aZ,.val tI],fun x=>FO x.1 x.2.1 x.2.2.1⟩
noncomputable def GI:Cx:=⟨Tryz.prog,[(71,cg),(86,kP),(127,eZ),(143,dZ),(158,gJ),(159,iB)]⟩
theorem ML:∀ x,bg GI EJ none Tryz.f100 sr x=sr.m x:=by intro x;kernel_rfl
theorem N8:aB Tryz.prog 100:=av (fn:=Tryz.f100) (by kernel_rfl) rfl (by decide)
theorem Ox:aN Tryz.prog 100 sr:=aL (X:=GI) (.cons fe eY (.cons we wB (.cons jy jz (.cons lg kU (.cons oc n6 (.cons qz qJ (.nil _))))))) (by kernel_rfl) sr EJ none (by kernel_rfl) (fun x y h=>(ML x).trans h)
def Ad:List (Nat×Ann):=[]
noncomputable def nI:aM:=⟨[.val .str],[.val aZ,.val tI],fun x=>Fl x.1⟩
noncomputable def CM:Cx:=⟨Tryz.prog,[(96,lW),(97,rY),(98,oC),(99,nN),(100,sr)]⟩
theorem Jh:∀ x,bg CM Ad none Tryz.f47 nI x=nI.m x:=by intro x;kernel_rfl
theorem JF:aB Tryz.prog 47:=av (fn:=Tryz.f47) (by kernel_rfl) rfl (by decide)
theorem JU:aN Tryz.prog 47 nI:=aL (X:=CM) (.cons IC Ia (.cons On Oj (.cons Lt Ll (.cons Fc Fe (.cons Ox N8 (.nil _)))))) (by kernel_rfl) nI Ad none (by kernel_rfl) (fun x y h=>(Jh x).trans h)
def GG:List (Nat×Ann):=[]
noncomputable def vw:aM:=⟨[],[.val .bool],fun x=>B7 ⟩
noncomputable def Kr:Cx:=⟨Tryz.prog,[(47,nI)]⟩
theorem PJ:∀ x,bg Kr GG none Tryz.f19 vw x=vw.m x:=by intro x;kernel_rfl
theorem Qk:aB Tryz.prog 19:=av (fn:=Tryz.f19) (by kernel_rfl) rfl (by decide)
theorem P7:aN Tryz.prog 19 vw:=aL (X:=Kr) (.cons JU JF (.nil _)) (by kernel_rfl) vw GG none (by kernel_rfl) (fun x y h=>(PJ x).trans h)
def IQ:List (Nat×Ann):=[]
noncomputable def x7:aM:=⟨[.val tI,.val tI],[.val tI],fun x=>HT x.1 x.2.1⟩
noncomputable def LF:Cx:=⟨Tryz.prog,[]⟩
theorem Qv:∀ x,bg LF IQ none Tryz.f20 x7 x=x7.m x:=by intro x;kernel_rfl
theorem Rt:aB Tryz.prog 20:=av (fn:=Tryz.f20) (by kernel_rfl) rfl (by decide)
theorem Rw:aN Tryz.prog 20 x7:=aL (X:=LF) (.nil _) (by kernel_rfl) x7 IQ none (by kernel_rfl) (fun x y h=>(Qv x).trans h)
def xB:List (Nat×Ann):=[]
noncomputable def lS:aM:=⟨[.val gI,.val (.ptr gI)],[.val .bool],fun x=>xm x.1 x.2.1⟩
noncomputable def Aa:Cx:=⟨Tryz.prog,[]⟩
theorem He:∀ x,bg Aa xB none Tryz.f49 lS x=lS.m x:=by intro x;kernel_rfl
theorem HF:aB Tryz.prog 49:=av (fn:=Tryz.f49) (by kernel_rfl) rfl (by decide)
theorem HP:aN Tryz.prog 49 lS:=aL (X:=Aa) (.nil _) (by kernel_rfl) lS xB none (by kernel_rfl) (fun x y h=>(He x).trans h)
def qB:List (Nat×Ann):=[(2,⟨[(0,.val (.slice gI)),(1,.val (.clo 49 (.ptr gI))),(7,.val tI),(8,.val tI)],[],[],bf _⟩),
 (200002,⟨[],[],[],fun _=>0⟩)]
noncomputable def ia:aM:=⟨[.val (.slice gI),.val (.clo 49 (.ptr gI))],[.val tI],fun x=>oI x.1 x.2.1⟩
noncomputable def sD:Cx:=⟨Tryz.prog,[(49,lS)]⟩
theorem AI:∀ x,bg sD qB none Tryz.f101 ia x=ia.m x:=by intro x;kernel_rfl
theorem BD:aB Tryz.prog 101:=av (fn:=Tryz.f101) (by kernel_rfl) rfl (by decide)
theorem BC:aN Tryz.prog 101 ia:=aL (X:=sD) (.cons HP HF (.nil _)) (by kernel_rfl) ia qB none (by kernel_rfl) (fun x y h=>(AI x).trans h)
def oP:List (Nat×Ann):=[]
noncomputable def fA:aM:=⟨[.val (.slice gI),.val (.clo 49 (.ptr gI))],[.val .bool],fun x=>jE x.1 x.2.1⟩
noncomputable def pV:Cx:=⟨Tryz.prog,[(101,ia)]⟩
theorem yS:∀ x,bg pV oP none Tryz.f48 fA x=fA.m x:=by intro x;kernel_rfl
theorem zA:aB Tryz.prog 48:=av (fn:=Tryz.f48) (by kernel_rfl) rfl (by decide)
theorem zw:aN Tryz.prog 48 fA:=aL (X:=pV) (.cons BC BD (.nil _)) (by kernel_rfl) fA oP none (by kernel_rfl) (fun x y h=>(yS x).trans h)
def zY:List (Nat×Ann):=[]
noncomputable def ld:aM:=⟨[.val aZ],[.val tI],fun x=>je x.1⟩
noncomputable def CE:Cx:=⟨Tryz.prog,[(102,cy),(103,jQ)]⟩
theorem I5:∀ x,bg CE zY none Tryz.f51 ld x=ld.m x:=by intro x;kernel_rfl
theorem Cr:aB Tryz.prog 51:=av (fn:=Tryz.f51) (by kernel_rfl) rfl (by decide)
theorem Ct:aN Tryz.prog 51 ld:=aL (X:=CE) (.cons iR iT (.cons uJ uM (.nil _))) (by kernel_rfl) ld zY none (by kernel_rfl) (fun x y h=>(I5 x).trans h)
def z8:List (Nat×Ann):=[(4,⟨[(0,.val (.slice gI)),(9,.val (.slice gI)),(10,.val tI),(11,.val tI)],[],[],bf _⟩),
 (200004,⟨[],[],[],fun _=>0⟩)]
noncomputable def kX:aM:=⟨[.val (.slice gI)],[.val tI],fun x=>qA x.1⟩
noncomputable def B5:Cx:=⟨Tryz.prog,[(38,kG),(39,fN),(48,fA),(50,pz),(51,ld)]⟩
theorem Ja:∀ x,bg B5 z8 none Tryz.f21 kX x=kX.m x:=by intro x;kernel_rfl
theorem CG:aB Tryz.prog 21:=av (fn:=Tryz.f21) (by kernel_rfl) rfl (by decide)
theorem CO:aN Tryz.prog 21 kX:=aL (X:=B5) (.cons uo uc (.cons lA lf (.cons zw zA (.cons D4 EA (.cons Ct Cr (.nil _)))))) (by kernel_rfl) kX z8 none (by kernel_rfl) (fun x y h=>(Ja x).trans h)
def vg:List (Nat×Ann):=[(2,⟨[(0,.val (.slice .str)),(1,.val .str),(7,.val tI),(8,.val tI)],[],[],bf _⟩),
 (200002,⟨[],[],[],fun _=>0⟩)]
noncomputable def kr:aM:=⟨[.val (.slice .str),.val .str],[.val tI],fun x=>uH x.1 x.2.1⟩
noncomputable def xC:Cx:=⟨Tryz.prog,[]⟩
theorem E9:∀ x,bg xC vg none Tryz.f204 kr x=kr.m x:=by intro x;kernel_rfl
theorem F3:aB Tryz.prog 204:=av (fn:=Tryz.f204) (by kernel_rfl) rfl (by decide)
theorem FX:aN Tryz.prog 204 kr:=aL (X:=xC) (.nil _) (by kernel_rfl) kr vg none (by kernel_rfl) (fun x y h=>(E9 x).trans h)
def sP:List (Nat×Ann):=[]
noncomputable def iZ:aM:=⟨[.val (.slice .str),.val .str],[.val .bool],fun x=>mW x.1 x.2.1⟩
noncomputable def uP:Cx:=⟨Tryz.prog,[(204,kr)]⟩
theorem CZ:∀ x,bg uP sP none Tryz.f161 iZ x=iZ.m x:=by intro x;kernel_rfl
theorem DI:aB Tryz.prog 161:=av (fn:=Tryz.f161) (by kernel_rfl) rfl (by decide)
theorem DA:aN Tryz.prog 161 iZ:=aL (X:=uP) (.cons FX F3 (.nil _)) (by kernel_rfl) iZ sP none (by kernel_rfl) (fun x y h=>(CZ x).trans h)
def wN:List (Nat×Ann):=[(4,⟨[(0,.val (.slice cE)),(11,.val (.slice cE)),(12,.val tI),(13,.val tI)],[],[],bf _⟩),
 (16,⟨[(0,.val (.slice cE)),(4,.ref 4 0),(11,.val (.slice cE)),(12,.val tI),(13,.val tI),(46,.val (.slice .str)),(47,.val tI),(48,.val tI)],[(4,SK)],[],bf _⟩),
 (200004,⟨[],[],[],fun _=>0⟩),
 (200016,⟨[(0,.val (.slice cE)),(11,.val (.slice cE)),(12,.val tI),(13,.val tI)],[],[],fun _=>0⟩)]
noncomputable def kT:aM:=⟨[.val (.slice cE)],[.val tI],fun x=>qH x.1⟩
noncomputable def zb:Cx:=⟨Tryz.prog,[(38,kG),(50,pz),(51,ld),(161,iZ)]⟩
theorem FV:∀ x,bg zb wN none Tryz.f104 kT x=kT.m x:=by intro x;kernel_rfl
theorem Hf:aB Tryz.prog 104:=av (fn:=Tryz.f104) (by kernel_rfl) rfl (by decide)
theorem GZ:aN Tryz.prog 104 kT:=aL (X:=zb) (.cons uo uc (.cons D4 EA (.cons Ct Cr (.cons DA DI (.nil _))))) (by kernel_rfl) kT wN none (by kernel_rfl) (fun x y h=>(FV x).trans h)
def AP:List (Nat×Ann):=[]
noncomputable def oo:aM:=⟨[.val (.slice gI),.val (.slice cE)],[.val tI],fun x=>wK x.1 x.2.1⟩
noncomputable def De:Cx:=⟨Tryz.prog,[(21,kX),(104,kT)]⟩
theorem JE:∀ x,bg De AP none Tryz.f52 oo x=oo.m x:=by intro x;kernel_rfl
theorem LA:aB Tryz.prog 52:=av (fn:=Tryz.f52) (by kernel_rfl) rfl (by decide)
theorem Lj:aN Tryz.prog 52 oo:=aL (X:=De) (.cons CO CG (.cons GZ Hf (.nil _))) (by kernel_rfl) oo AP none (by kernel_rfl) (fun x y h=>(JE x).trans h)
def FI:List (Nat×Ann):=[]
noncomputable def tX:aM:=⟨[.val aZ],[.val tI],fun x=>zF x.1⟩
noncomputable def IS:Cx:=⟨Tryz.prog,[(160,nW)]⟩
theorem OI:∀ x,bg IS FI none Tryz.f105 tX x=tX.m x:=by intro x;kernel_rfl
theorem PG:aB Tryz.prog 105:=av (fn:=Tryz.f105) (by kernel_rfl) rfl (by decide)
theorem PB:aN Tryz.prog 105 tX:=aL (X:=IS) (.cons CX CU (.nil _)) (by kernel_rfl) tX FI none (by kernel_rfl) (fun x y h=>(OI x).trans h)
def sE:List (Nat×Ann):=[]
noncomputable def iJ:aM:=⟨[.val (.slice .hnd)],[.row 113 .hnd],fun x=>mm x.1⟩
noncomputable def tY:Cx:=⟨Tryz.prog,[]⟩
theorem Cc:∀ x,bg tY sE none Tryz.f106 iJ x=iJ.m x:=by intro x;kernel_rfl
theorem C0:aB Tryz.prog 106:=av (fn:=Tryz.f106) (by kernel_rfl) rfl (by decide)
theorem CY:aN Tryz.prog 106 iJ:=aL (X:=tY) (.nil _) (by kernel_rfl) iJ sE none (by kernel_rfl) (fun x y h=>(Cc x).trans h)
def A1:List (Nat×Ann):=[]
noncomputable def oa:aM:=⟨[.val .hnd,.arR aQ],[.val tI],fun x=>wJ x.1 x.2.1⟩
noncomputable def Dj:Cx:=⟨Tryz.prog,[]⟩
theorem JN:∀ x,bg Dj A1 none Tryz.f109 oa x=oa.m x:=by intro x;kernel_rfl
theorem K2:aB Tryz.prog 109:=av (fn:=Tryz.f109) (by kernel_rfl) rfl (by decide)
theorem Lf:aN Tryz.prog 109 oa:=aL (X:=Dj) (.nil _) (by kernel_rfl) oa A1 none (by kernel_rfl) (fun x y h=>(JN x).trans h)
def At:List (Nat×Ann):=[]
noncomputable def kW:aM:=⟨[.val .hnd,.val .hnd,.arR aQ],[.val tI],fun x=>lM x.1 x.2.1 x.2.2.1⟩
noncomputable def Cs:Cx:=⟨Tryz.prog,[(109,oa)]⟩
theorem Jc:∀ x,bg Cs At none Tryz.f108 kW x=kW.m x:=by intro x;kernel_rfl
theorem B2:aB Tryz.prog 108:=av (fn:=Tryz.f108) (by kernel_rfl) rfl (by decide)
theorem Ch:aN Tryz.prog 108 kW:=aL (X:=Cs) (.cons Lf K2 (.nil _)) (by kernel_rfl) kW At none (by kernel_rfl) (fun x y h=>(Jc x).trans h)
def kJ:List (Nat×Ann):=[(1,⟨[(0,.rowR 10250000),(1,.val tI),(2,.val tI),(3,.val (.clo 108 .unit)),(8,.val tI)],[],[.rowC 10250000 113 .hnd,.arF aQ],bf _⟩),
 (4,⟨[(0,.rowR 10250000),(1,.val tI),(2,.val tI),(3,.val (.clo 108 .unit)),(8,.val tI),(9,.val tI)],[],[.rowC 10250000 113 .hnd,.arF aQ],bf _⟩),
 (200001,⟨[],[],[.rowC 10250000 113 .hnd,.arF aQ],fun _=>0⟩),
 (200004,⟨[(0,.rowR 10250000),(1,.val tI),(2,.val tI),(3,.val (.clo 108 .unit)),(8,.val tI)],[],[.rowC 10250000 113 .hnd,.arF aQ],fun _=>0⟩)]
noncomputable def cw:aM:=⟨[.mrow 113 .hnd,.val tI,.val tI,.val (.clo 108 .unit),.arR aQ],[],fun x=>cM x.1 x.2.1 x.2.2.1 x.2.2.2.1 x.2.2.2.2.1⟩
noncomputable def lG:Cx:=⟨Tryz.prog,[(108,kW)]⟩
theorem sJ:∀ x,bg lG kJ none Tryz.f205 cw x=cw.m x:=by intro x;kernel_rfl
theorem sK:aB Tryz.prog 205:=av (fn:=Tryz.f205) (by kernel_rfl) rfl (by decide)
theorem sM:aN Tryz.prog 205 cw:=aL (X:=lG) (.cons Ch B2 (.nil _)) (by kernel_rfl) cw kJ none (by kernel_rfl) (fun x y h=>(sJ x).trans h)
def mg:List (Nat×Ann):=[(1,⟨[(0,.rowR 10250000),(1,.val tI),(2,.val tI),(3,.val tI),(10,.val tI)],[],[.rowC 10250000 113 .hnd,.arF aQ],bf _⟩),
 (200001,⟨[],[],[.rowC 10250000 113 .hnd,.arF aQ],fun _=>0⟩)]
noncomputable def cP:aM:=⟨[.mrow 113 .hnd,.val tI,.val tI,.val tI,.val (.clo 108 .unit),.arR aQ],[],fun x=>cB x.1 x.2.1 x.2.2.1 x.2.2.2.1 x.2.2.2.2.1 x.2.2.2.2.2.1⟩
noncomputable def mU:Cx:=⟨Tryz.prog,[]⟩
theorem uF:∀ x,bg mU mg none Tryz.f240 cP x=cP.m x:=by intro x;kernel_rfl
theorem u5:aB Tryz.prog 240:=av (fn:=Tryz.f240) (by kernel_rfl) rfl (by decide)
theorem u6:aN Tryz.prog 240 cP:=aL (X:=mU) (.nil _) (by kernel_rfl) cP mg none (by kernel_rfl) (fun x y h=>(uF x).trans h)
def nH:List (Nat×Ann):=[(2,⟨[(0,.rowR 10250000),(2,.val tI),(4,.val (.clo 108 .unit)),(10,.val tI),(11,.val tI)],[],[.rowC 10250000 113 .hnd,.arF aQ],bf _⟩),
 (200002,⟨[(0,.rowR 10250000),(2,.val tI),(4,.val (.clo 108 .unit)),(10,.val tI)],[],[.rowC 10250000 113 .hnd,.arF aQ],fun _=>0⟩)]
noncomputable def dK:aM:=⟨[.mrow 113 .hnd,.val tI,.val tI,.val tI,.val (.clo 108 .unit),.arR aQ],[],fun x=>iO x.1 x.2.1 x.2.2.1 x.2.2.2.1 x.2.2.2.2.1 x.2.2.2.2.2.1⟩
noncomputable def ot:Cx:=⟨Tryz.prog,[(240,cP)]⟩
theorem wo:∀ x,bg ot nH none Tryz.f231 dK x=dK.m x:=by intro x;kernel_rfl
theorem xb:aB Tryz.prog 231:=av (fn:=Tryz.f231) (by kernel_rfl) rfl (by decide)
theorem xh:aN Tryz.prog 231 dK:=aL (X:=ot) (.cons u6 u5 (.nil _)) (by kernel_rfl) dK nH none (by kernel_rfl) (fun x y h=>(wo x).trans h)
def mu:List (Nat×Ann):=[(3,⟨[(0,.rowR 10250000),(1,.val tI),(4,.val (.clo 108 .unit)),(10,.val tI),(11,.val tI)],[],[.rowC 10250000 113 .hnd,.arF aQ],bf _⟩),
 (9,⟨[(0,.rowR 10250000),(10,.val tI),(13,.val tI)],[],[.rowC 10250000 113 .hnd,.arF aQ],bf _⟩),
 (15,⟨[(0,.rowR 10250000),(2,.val tI),(4,.val (.clo 108 .unit)),(14,.val tI),(15,.val tI)],[],[.rowC 10250000 113 .hnd,.arF aQ],bf _⟩),
 (21,⟨[(0,.rowR 10250000),(14,.val tI),(17,.val tI)],[],[.rowC 10250000 113 .hnd,.arF aQ],bf _⟩),
 (33,⟨[(0,.rowR 10250000),(1,.val tI),(2,.val tI),(3,.val tI),(4,.val (.clo 108 .unit)),(18,.val tI),(19,.val tI),(20,.val tI),(21,.val tI),(22,.val tI)],[],[.rowC 10250000 113 .hnd,.arF aQ],bf _⟩),
 (100030,⟨[(0,.rowR 10250000),(1,.val tI),(2,.val tI),(3,.val tI),(4,.val (.clo 108 .unit)),(18,.val tI),(19,.val tI),(20,.val tI),(21,.val tI)],[],[.rowC 10250000 113 .hnd,.arF aQ],fun _=>0⟩),
 (100040,⟨[(0,.rowR 10250000),(1,.val tI),(3,.val tI),(4,.val (.clo 108 .unit)),(18,.val tI),(20,.val tI),(24,.val tI)],[],[.rowC 10250000 113 .hnd,.arF aQ],fun _=>0⟩),
 (100042,⟨[(0,.rowR 10250000),(3,.val tI),(4,.val (.clo 108 .unit)),(18,.val tI),(24,.val tI)],[],[.rowC 10250000 113 .hnd,.arF aQ],fun _=>0⟩),
 (200003,⟨[(0,.rowR 10250000),(1,.val tI),(10,.val tI)],[],[.rowC 10250000 113 .hnd,.arF aQ],fun _=>0⟩),
 (200009,⟨[],[],[.rowC 10250000 113 .hnd,.arF aQ],fun _=>0⟩),
 (200015,⟨[(0,.rowR 10250000),(2,.val tI),(14,.val tI)],[],[.rowC 10250000 113 .hnd,.arF aQ],fun _=>0⟩),
 (200021,⟨[],[],[.rowC 10250000 113 .hnd,.arF aQ],fun _=>0⟩),
 (200033,⟨[(0,.rowR 10250000),(1,.val tI),(2,.val tI),(3,.val tI),(4,.val (.clo 108 .unit)),(18,.val tI),(19,.val tI),(20,.val tI)],[],[.rowC 10250000 113 .hnd,.arF aQ],fun _=>0⟩)]
def bM:List PM:=[.mrow 113 .hnd,.val tI,.val tI,.val tI,.val (.clo 108 .unit),.arR aQ]
def ck:List RM:=[]
noncomputable def mV:List (Nat×aM):=[(108,kW),(231,dK)]
noncomputable def nr:aM:=⟨bM,ck,fun x=>dV x.1 x.2.1 x.2.2.1 x.2.2.2.1 x.2.2.2.2.1 x.2.2.2.2.2.1⟩
theorem uZ:∀ (self:gO bM→Option (dx bM ck)) (x:gO bM),bg ⟨Tryz.prog,(206,⟨bM,ck,self⟩)::mV⟩ mu none Tryz.f206 ⟨bM,ck,fun x=>bT self x.1 x.2.1 x.2.2.1 x.2.2.2.1 x.2.2.2.2.1 x.2.2.2.2.2.1⟩ x=bT self x.1 x.2.1 x.2.2.1 x.2.2.2.1 x.2.2.2.2.1 x.2.2.2.2.2.1:=by intro self x;kernel_rfl
theorem nh:aB Tryz.prog 206:=av (fn:=Tryz.f206) (by kernel_rfl) rfl (by decide)
theorem vD:aN Tryz.prog 206 nr:=LL (ps:=bM) (rs:=ck) (m:=fun n x=>w7 (fun self x=>bT self x.1 x.2.1 x.2.2.1 x.2.2.2.1 x.2.2.2.2.1 x.2.2.2.2.2.1) n x) (Il (P:=Tryz.prog) (specs:=mV) (ps:=bM) (rs:=ck) (.cons Ch B2 (.cons xh xb (.nil _))) (by kernel_rfl) (fun self x=>bT self x.1 x.2.1 x.2.2.1 x.2.2.2.1 x.2.2.2.2.1 x.2.2.2.2.2.1) mu none (by kernel_rfl) nh uZ) (fun x=>iY x.1 x.2.1 x.2.2.1 x.2.2.2.1 x.2.2.2.2.1 x.2.2.2.2.2.1)
def nE:List (Nat×Ann):=[(2,⟨[(0,.rowR 10250000),(1,.val tI),(2,.val (.clo 108 .unit)),(6,.val tI),(7,.val tI),(8,.val tI)],[],[.rowC 10250000 113 .hnd,.arF aQ],bf _⟩),
 (7,⟨[(0,.rowR 10250000),(1,.val tI),(2,.val (.clo 108 .unit)),(6,.val tI)],[],[.rowC 10250000 113 .hnd,.arF aQ],bf _⟩),
 (9,⟨[(0,.rowR 10250000),(1,.val tI),(2,.val (.clo 108 .unit)),(6,.val tI),(7,.val tI),(8,.val tI)],[],[.rowC 10250000 113 .hnd,.arF aQ],bf _⟩),
 (200002,⟨[(0,.rowR 10250000),(1,.val tI),(2,.val (.clo 108 .unit)),(6,.val tI),(7,.val tI)],[],[.rowC 10250000 113 .hnd,.arF aQ],fun _=>0⟩),
 (200007,⟨[],[],[.rowC 10250000 113 .hnd,.arF aQ],fun _=>0⟩),
 (200009,⟨[(0,.rowR 10250000),(1,.val tI),(2,.val (.clo 108 .unit)),(6,.val tI),(7,.val tI)],[],[.rowC 10250000 113 .hnd,.arF aQ],fun _=>0⟩)]
noncomputable def dI:aM:=⟨[.mrow 113 .hnd,.val tI,.val (.clo 108 .unit),.arR aQ],[],fun x=>lF x.1 x.2.1 x.2.2.1 x.2.2.2.1⟩
noncomputable def oD:Cx:=⟨Tryz.prog,[(205,cw),(206,nr)]⟩
theorem wz:∀ x,bg oD nE none Tryz.f162 dI x=dI.m x:=by intro x;kernel_rfl
theorem wX:aB Tryz.prog 162:=av (fn:=Tryz.f162) (by kernel_rfl) rfl (by decide)
theorem wZ:aN Tryz.prog 162 dI:=aL (X:=oD) (.cons sM sK (.cons vD nh (.nil _))) (by kernel_rfl) dI nE none (by kernel_rfl) (fun x y h=>(wz x).trans h)
def mS:List (Nat×Ann):=[]
noncomputable def dy:aM:=⟨[.mrow 113 .hnd,.val (.clo 108 .unit),.arR aQ],[],fun x=>iF x.1 x.2.1 x.2.2.1⟩
noncomputable def nJ:Cx:=⟨Tryz.prog,[(162,dI)]⟩
theorem vz:∀ x,bg nJ mS none Tryz.f107 dy x=dy.m x:=by intro x;kernel_rfl
theorem wF:aB Tryz.prog 107:=av (fn:=Tryz.f107) (by kernel_rfl) rfl (by decide)
theorem wq:aN Tryz.prog 107 dy:=aL (X:=nJ) (.cons wZ wX (.nil _)) (by kernel_rfl) dy mS none (by kernel_rfl) (fun x y h=>(vz x).trans h)
def AB:List (Nat×Ann):=[]
noncomputable def nu:aM:=⟨[.val .hnd,.val tI,.arR aQ],[.val .bool],fun x=>nU x.1 x.2.1 x.2.2.1⟩
noncomputable def Cd:Cx:=⟨Tryz.prog,[]⟩
theorem Jl:∀ x,bg Cd AB none Tryz.f110 nu x=nu.m x:=by intro x;kernel_rfl
theorem Kg:aB Tryz.prog 110:=av (fn:=Tryz.f110) (by kernel_rfl) rfl (by decide)
theorem J0:aN Tryz.prog 110 nu:=aL (X:=Cd) (.nil _) (by kernel_rfl) nu AB none (by kernel_rfl) (fun x y h=>(Jl x).trans h)
def wO:List (Nat×Ann):=[]
noncomputable def kR:aM:=⟨[.val .hnd,.arR aQ],[.val tI],fun x=>qk x.1 x.2.1⟩
noncomputable def yV:Cx:=⟨Tryz.prog,[(160,nW)]⟩
theorem FP:∀ x,bg yV wO none Tryz.f163 kR x=kR.m x:=by intro x;kernel_rfl
theorem GV:aB Tryz.prog 163:=av (fn:=Tryz.f163) (by kernel_rfl) rfl (by decide)
theorem G8:aN Tryz.prog 163 kR:=aL (X:=yV) (.cons CX CU (.nil _)) (by kernel_rfl) kR wO none (by kernel_rfl) (fun x y h=>(FP x).trans h)
def Cg:List (Nat×Ann):=[]
noncomputable def mP:aM:=⟨[.val .hnd,.val tI,.val tI,.ar aQ],[.val tI],fun x=>p9 x.1 x.2.1 x.2.2.1 x.2.2.2.1⟩
noncomputable def DZ:Cx:=⟨Tryz.prog,[]⟩
theorem Lp:∀ x,bg DZ Cg none Tryz.f112 mP x=mP.m x:=by intro x;kernel_rfl
theorem ET:aB Tryz.prog 112:=av (fn:=Tryz.f112) (by kernel_rfl) rfl (by decide)
theorem EV:aN Tryz.prog 112 mP:=aL (X:=DZ) (.nil _) (by kernel_rfl) mP Cg none (by kernel_rfl) (fun x y h=>(Lp x).trans h)
def Ap:List (Nat×Ann):=[]
noncomputable def nx:aM:=⟨[.val .hnd,.val tI,.val tI,.ar aQ],[.val tI],fun x=>qo x.1 x.2.1 x.2.2.1 x.2.2.2.1⟩
noncomputable def B1:Cx:=⟨Tryz.prog,[(112,mP),(163,kR)]⟩
theorem I4:∀ x,bg B1 Ap none Tryz.f111 nx x=nx.m x:=by intro x;kernel_rfl
theorem JW:aB Tryz.prog 111:=av (fn:=Tryz.f111) (by kernel_rfl) rfl (by decide)
theorem KC:aN Tryz.prog 111 nx:=aL (X:=B1) (.cons EV ET (.cons G8 GV (.nil _))) (by kernel_rfl) nx Ap none (by kernel_rfl) (fun x y h=>(I4 x).trans h)
def CH:List (Nat×Ann):=[(4,⟨[(1,.val (.slice cE)),(2,.val tI),(8,.own 113 .hnd),(9,.mapR 23),(24,.val (.slice gI)),(25,.val tI),(26,.val tI)],[],[.mapC 23 .str .hnd,.ar aQ],bf _⟩),
 (14,⟨[(2,.val tI),(8,.own 113 .hnd),(9,.mapR 23),(13,.rowR 105744),(14,.own 3 tI),(49,.val (.slice cE)),(50,.val tI),(51,.val tI)],[],[.rowC 105744 113 .hnd,.mapC 23 .str .hnd,.ar aQ],bf _⟩),
 (19,⟨[(2,.val tI),(8,.own 113 .hnd),(9,.mapR 23),(13,.rowR 105744),(14,.own 3 tI),(16,.ref 16 0),(17,.val tI),(49,.val (.slice cE)),(50,.val tI),(51,.val tI),(63,.val (.slice .str)),(64,.val tI),(65,.val tI)],[(16,SK)],[.rowC 105744 113 .hnd,.mapC 23 .str .hnd,.ar aQ],bf _⟩),
 (26,⟨[(2,.val tI),(8,.own 113 .hnd),(9,.mapR 23),(13,.rowR 105744),(14,.own 3 tI),(16,.ref 16 0),(17,.val tI),(49,.val (.slice cE)),(50,.val tI),(51,.val tI),(86,.rowR 105744),(87,.val tI),(88,.val tI)],[(16,SK)],[.rowC 105744 113 .hnd,.mapC 23 .str .hnd,.ar aQ],bf _⟩),
 (200004,⟨[(1,.val (.slice cE)),(2,.val tI),(8,.own 113 .hnd),(9,.mapR 23)],[],[.mapC 23 .str .hnd,.ar aQ],fun _=>0⟩),
 (200014,⟨[(8,.own 113 .hnd),(14,.own 3 tI)],[],[.ar aQ],fun _=>0⟩),
 (200019,⟨[(2,.val tI),(8,.own 113 .hnd),(9,.mapR 23),(13,.rowR 105744),(14,.own 3 tI),(16,.ref 16 0),(17,.val tI),(49,.val (.slice cE)),(50,.val tI),(51,.val tI)],[(16,SK)],[.rowC 105744 113 .hnd,.mapC 23 .str .hnd,.ar aQ],fun _=>0⟩),
 (200026,⟨[(2,.val tI),(8,.own 113 .hnd),(9,.mapR 23),(13,.rowR 105744),(14,.own 3 tI),(17,.val tI),(49,.val (.slice cE)),(50,.val tI),(51,.val tI)],[],[.rowC 105744 113 .hnd,.mapC 23 .str .hnd,.ar aQ],fun _=>0⟩)]
noncomputable def pq:aM:=⟨[.val (.slice gI),.val (.slice cE),.val tI,.ar aQ],[.val (.slice .hnd),.val (.slice tI)],fun x=>yd x.1 x.2.1 x.2.2.1 x.2.2.2.1⟩
noncomputable def EU:Cx:=⟨Tryz.prog,[(105,tX),(106,iJ),(107,dy),(110,nu),(111,nx),(112,mP)]⟩
theorem K6:∀ x,bg EU CH none Tryz.f53 pq x=pq.m x:=by intro x;kernel_rfl
theorem Ml:aB Tryz.prog 53:=av (fn:=Tryz.f53) (by kernel_rfl) rfl (by decide)
theorem Mc:aN Tryz.prog 53 pq:=aL (X:=EU) (.cons PB PG (.cons CY C0 (.cons wq wF (.cons J0 Kg (.cons KC JW (.cons EV ET (.nil _))))))) (by kernel_rfl) pq CH none (by kernel_rfl) (fun x y h=>(K6 x).trans h)
def B3:List (Nat×Ann):=[(2,⟨[(1,.val tI),(2,.ref 2 0),(4,.ref 4 0),(6,.ref 6 0)],[(2,jN),(4,Ea),(6,jN)],[],bf _⟩),
 (200002,⟨[(1,.val tI),(2,.ref 2 0),(4,.ref 4 0)],[(2,jN),(4,Ea)],[],fun _=>0⟩)]
noncomputable def pJ:aM:=⟨[.val ai,.val tI],[.val aZ,.val tI],fun x=>ya x.1 x.2.1⟩
noncomputable def EY:Cx:=⟨Tryz.prog,[(86,kP),(127,eZ),(158,gJ),(159,iB),(195,lT)]⟩
theorem La:∀ x,bg EY B3 none Tryz.f164 pJ x=pJ.m x:=by intro x;kernel_rfl
theorem Mk:aB Tryz.prog 164:=av (fn:=Tryz.f164) (by kernel_rfl) rfl (by decide)
theorem L7:aN Tryz.prog 164 pJ:=aL (X:=EY) (.cons we wB (.cons jy jz (.cons oc n6 (.cons qz qJ (.cons Ay Aw (.nil _)))))) (by kernel_rfl) pJ B3 none (by kernel_rfl) (fun x y h=>(La x).trans h)
def Fg:List (Nat×Ann):=[]
noncomputable def tO:aM:=⟨[.val tI],[.val aZ,.val tI],fun x=>DF x.1⟩
noncomputable def IT:Cx:=⟨Tryz.prog,[(127,eZ),(164,pJ)]⟩
theorem Og:∀ x,bg IT Fg none Tryz.f113 tO x=tO.m x:=by intro x;kernel_rfl
theorem Pt:aB Tryz.prog 113:=av (fn:=Tryz.f113) (by kernel_rfl) rfl (by decide)
theorem Pp:aN Tryz.prog 113 tO:=aL (X:=IT) (.cons jy jz (.cons L7 Mk (.nil _))) (by kernel_rfl) tO Fg none (by kernel_rfl) (fun x y h=>(Og x).trans h)
def A3:List (Nat×Ann):=[]
noncomputable def oe:aM:=⟨[.val tI],[.val aZ],fun x=>k9 x.1⟩
noncomputable def C9:Cx:=⟨Tryz.prog,[(113,tO)]⟩
theorem Kq:∀ x,bg C9 A3 none Tryz.f54 oe x=oe.m x:=by intro x;kernel_rfl
theorem K9:aB Tryz.prog 54:=av (fn:=Tryz.f54) (by kernel_rfl) rfl (by decide)
theorem Lg:aN Tryz.prog 54 oe:=aL (X:=C9) (.cons Pp Pt (.nil _)) (by kernel_rfl) oe A3 none (by kernel_rfl) (fun x y h=>(Kq x).trans h)
def IX:List (Nat×Ann):=[(7,⟨[(9,.val (.slice tI)),(10,.own 63 zD),(28,.val (.slice .hnd)),(29,.val tI),(30,.val tI)],[],[.ar aQ],bf _⟩),
 (13,⟨[(10,.own 63 zD),(13,.own 33 aZ),(58,.val (.slice tI)),(59,.val tI),(60,.val tI)],[],[.ar aQ],bf _⟩),
 (200007,⟨[(9,.val (.slice tI)),(10,.own 63 zD)],[],[.ar aQ],fun _=>0⟩),
 (200013,⟨[(10,.own 63 zD),(13,.own 33 aZ)],[],[.ar aQ],fun _=>0⟩)]
noncomputable def xR:aM:=⟨[.val (.slice gI),.val (.slice cE)],[.val (.slice zD),.val (.slice aZ),.val tI],fun x=>yz x.1 x.2.1⟩
noncomputable def LH:Cx:=⟨Tryz.prog,[(52,oo),(53,pq),(54,oe)]⟩
theorem QV:∀ x,bg LH IX (some aQ) Tryz.f22 xR x=xR.m x:=by intro x;kernel_rfl
theorem RE:aB Tryz.prog 22:=av (fn:=Tryz.f22) (by kernel_rfl) rfl (by decide)
theorem RU:aN Tryz.prog 22 xR:=aL (X:=LH) (.cons Lj LA (.cons Mc Ml (.cons Lg K9 (.nil _)))) (by kernel_rfl) xR IX (some aQ) (by kernel_rfl) (fun x y h=>(QV x).trans h)
def pY:List (Nat×Ann):=[]
noncomputable def jq:aM:=⟨[.val b7,.val tI],[.val .bool],fun x=>kE x.1 x.2.1⟩
noncomputable def qX:Cx:=⟨Tryz.prog,[(12,rT),(19,vw),(20,x7),(21,kX),(22,xR)]⟩
theorem z6:∀ x,bg qX pY none Tryz.f6 jq x=jq.m x:=by intro x;kernel_rfl
theorem AG:aN Tryz.prog 6 jq:=aL (X:=qX) (.cons Oe Oq (.cons P7 Qk (.cons Rw Rt (.cons CO CG (.cons RU RE (.nil _)))))) (by kernel_rfl) jq pY none (by kernel_rfl) (fun x y h=>(z6 x).trans h)
end Go.Proofs.SeatS
