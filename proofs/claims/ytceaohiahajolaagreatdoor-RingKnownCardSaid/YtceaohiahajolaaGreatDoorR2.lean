/-
  A run by the kernel. No conditions.
-/
import Derived.Test.YtceaohiahajolaaGreatDoorC
import Derived.KernelRfl
namespace Go.Proofs.YtceaohiahajolaaGreatDoor.VM
theorem w2_0:bAnd (mr4 D4_2_0) (mr5 D5_2_0) = true:=by kernel_rfl
end Go.Proofs.YtceaohiahajolaaGreatDoor.VM
namespace Go.Proofs.YtceaohiahajolaaGreatDoor.VM
theorem w2_1:bAnd (mr6 D6_2_1) (mr7 D7_2_1) = true:=by kernel_rfl
end Go.Proofs.YtceaohiahajolaaGreatDoor.VM
namespace Go.Proofs.YtceaohiahajolaaGreatDoor.VM
theorem w3_0:mr4 D4_3_0 = true:=by kernel_rfl
end Go.Proofs.YtceaohiahajolaaGreatDoor.VM
