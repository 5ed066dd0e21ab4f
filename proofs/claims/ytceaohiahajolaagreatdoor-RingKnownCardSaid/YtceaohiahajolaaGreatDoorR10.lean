/-
  A run by the kernel. No conditions.
-/
import Derived.Test.YtceaohiahajolaaGreatDoorC
import Derived.KernelRfl
namespace Go.Proofs.YtceaohiahajolaaGreatDoor.VM
theorem w7_1:bAnd (mr4 D4_7_1) (bAnd (mr5 D5_7_1) (mr6 D6_7_1)) = true:=by kernel_rfl
end Go.Proofs.YtceaohiahajolaaGreatDoor.VM
namespace Go.Proofs.YtceaohiahajolaaGreatDoor.VM
theorem w7_2:bAnd (mr6 D6_7_2) (mr7 D7_7_2) = true:=by kernel_rfl
end Go.Proofs.YtceaohiahajolaaGreatDoor.VM
namespace Go.Proofs.YtceaohiahajolaaGreatDoor.VM
theorem w8_0:mr4 D4_8_0 = true:=by kernel_rfl
end Go.Proofs.YtceaohiahajolaaGreatDoor.VM
