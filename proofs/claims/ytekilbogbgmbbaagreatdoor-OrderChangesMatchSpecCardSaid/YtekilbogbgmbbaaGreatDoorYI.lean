/-
  Insertion of a line, by the library's contract. No condition.
-/
import Derived.Test.YtekilbogbgmbbaaGreatDoorYi
import Derived.Test.YtekilbogbgmbbaaGreatDoorYd
import Derived.WalkKit
import Derived.LoopN
set_option maxRecDepth 100000
namespace Go.Proofs.SeatA
open Go.Dn Go.Md Go.Proofs Go.RowKit Go.Shelf Go.Lib Go.Sort
def TA:Ren:=⟨fun | 22=>91 | 29=>145 | 30=>146 | n=>n,fun | 24=>91 | 9=>90 | n=>n,fun n=>n⟩
theorem acR:xJ Tryz.prog TA 19 184 (.agg #[.int .i64 0,.string ⟨#[]⟩,.string ⟨#[]⟩,.int .i64 0,.int .i64 0,.int .i64 0,.int .i64 0,.int .i64 0,.int .i64 0,.int .i64 0,.int .i64 0,.int .i64 0,.int .i64 0,.int .i64 0,.int .i64 0,.int .i64 0,.int .i64 0,.int .i64 0,.slice none 0 0]):={
 mixed:=by kernel_rfl
 f22:=⟨_,by decide,Tryz.func91.trans (congrArg some (by kernel_rfl:Tryz.f91={ Body2.n22 TA with name:= "slices.Insert[[]interchange/interchangeref9.line,interchange/interchangeref9.line]" }))⟩
 f29:=⟨Tryz.f145,by kernel_rfl,by kernel_rfl,by kernel_rfl,by kernel_rfl,by kernel_rfl⟩
 t0:=Tryz.underlying0
 a0:=Tryz.isAgg0
 z0:=Tryz.sizeOf0
 v0:=Tryz.zeroValue0
 t3:=Tryz.underlying3
 a3:=Tryz.isAgg3
 z3:=Tryz.sizeOf3
 v3:=Tryz.zeroValue3
 t4:=Tryz.underlying4
 a4:=Tryz.isAgg4
 z4:=Tryz.sizeOf4
 v4:=Tryz.zeroValue4
 z9:=Tryz.sizeOf90
 t24:=Tryz.underlying91
 a24:=Tryz.isAgg91
 z24:=Tryz.sizeOf91
 v24:=Tryz.zeroValue91
 i9:=by kernel_rfl
 k0:=by decide
 zc:=rfl }
def je:av:=⟨[.row 90 aT,.val tI,.row 90 aT],[.row 90 aT],fun x=>gf x.1 x.2.1 x.2.2.1⟩
theorem qW:fe Tryz.prog 91:=jW (fn:=Tryz.f91) (by kernel_rfl) rfl (by decide)
theorem qX:ig Tryz.prog 91 je:=Xd (t:=aT) acR
end Go.Proofs.SeatA
