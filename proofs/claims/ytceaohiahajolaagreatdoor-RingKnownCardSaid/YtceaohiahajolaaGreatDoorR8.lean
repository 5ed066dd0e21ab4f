/-
  A run by the kernel. No conditions.
-/
import Derived.Test.YtceaohiahajolaaGreatDoorC
import Derived.KernelRfl
namespace Go.Proofs.YtceaohiahajolaaGreatDoor.VM
theorem w4_10:mr7 D7_4_10 = true:=by kernel_rfl
end Go.Proofs.YtceaohiahajolaaGreatDoor.VM
namespace Go.Proofs.YtceaohiahajolaaGreatDoor.VM
theorem w5_0:bAnd (mr4 D4_5_0) (mr5 D5_5_0) = true:=by kernel_rfl
end Go.Proofs.YtceaohiahajolaaGreatDoor.VM
namespace Go.Proofs.YtceaohiahajolaaGreatDoor.VM
theorem w5_1:bAnd (mr5 D5_5_1) (bAnd (mr6 D6_5_1) (mr7 D7_5_1)) = true:=by kernel_rfl
end Go.Proofs.YtceaohiahajolaaGreatDoor.VM
