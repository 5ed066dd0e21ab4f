/-
  A run by the kernel. No conditions.
-/
import Derived.Test.YtceaohiahajolaaGreatDoorC
import Derived.KernelRfl
namespace Go.Proofs.YtceaohiahajolaaGreatDoor.VM
theorem w10_6:mr6 D6_10_6 = true:=by kernel_rfl
end Go.Proofs.YtceaohiahajolaaGreatDoor.VM
namespace Go.Proofs.YtceaohiahajolaaGreatDoor.VM
theorem w10_7:mr7 D7_10_7 = true:=by kernel_rfl
end Go.Proofs.YtceaohiahajolaaGreatDoor.VM
namespace Go.Proofs.YtceaohiahajolaaGreatDoor.VM
theorem wi8_0:mi8 E8_0 = true:=by kernel_rfl
end Go.Proofs.YtceaohiahajolaaGreatDoor.VM
