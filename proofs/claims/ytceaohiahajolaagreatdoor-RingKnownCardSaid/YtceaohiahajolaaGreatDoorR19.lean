/-
  A run by the kernel. No conditions.
-/
import Derived.Test.YtceaohiahajolaaGreatDoorC
import Derived.KernelRfl
namespace Go.Proofs.YtceaohiahajolaaGreatDoor.VM
theorem wi58_0:mi58 E58_0 = true:=by kernel_rfl
end Go.Proofs.YtceaohiahajolaaGreatDoor.VM
namespace Go.Proofs.YtceaohiahajolaaGreatDoor.VM
theorem wi58_1:mi58 E58_1 = true:=by kernel_rfl
end Go.Proofs.YtceaohiahajolaaGreatDoor.VM
namespace Go.Proofs.YtceaohiahajolaaGreatDoor.VM
theorem wi58_2:mi58 E58_2 = true:=by kernel_rfl
end Go.Proofs.YtceaohiahajolaaGreatDoor.VM
