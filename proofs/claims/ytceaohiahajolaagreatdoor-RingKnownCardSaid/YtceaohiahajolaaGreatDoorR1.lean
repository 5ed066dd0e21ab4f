/-
  A run by the kernel. No conditions.
-/
import Derived.Test.YtceaohiahajolaaGreatDoorC
import Derived.KernelRfl
namespace Go.Proofs.YtceaohiahajolaaGreatDoor.VM
theorem w0_0:bAnd (mr4 D4_0_0) (bAnd (mr5 D5_0_0) (bAnd (mr6 D6_0_0) (mr7 D7_0_0))) = true:=by kernel_rfl
end Go.Proofs.YtceaohiahajolaaGreatDoor.VM
namespace Go.Proofs.YtceaohiahajolaaGreatDoor.VM
theorem w1_0:bAnd (mr4 D4_1_0) (mr5 D5_1_0) = true:=by kernel_rfl
end Go.Proofs.YtceaohiahajolaaGreatDoor.VM
namespace Go.Proofs.YtceaohiahajolaaGreatDoor.VM
theorem w1_1:bAnd (mr5 D5_1_1) (bAnd (mr6 D6_1_1) (mr7 D7_1_1)) = true:=by kernel_rfl
end Go.Proofs.YtceaohiahajolaaGreatDoor.VM
