/-
  A run by the kernel. No conditions.
-/
import Derived.Test.YtceaohiahajolaaGreatDoorC
import Derived.KernelRfl
namespace Go.Proofs.YtceaohiahajolaaGreatDoor.VM
theorem wi58_9:mi58 E58_9 = true:=by kernel_rfl
end Go.Proofs.YtceaohiahajolaaGreatDoor.VM
namespace Go.Proofs.YtceaohiahajolaaGreatDoor.VM
theorem wi58_10:mi58 E58_10 = true:=by kernel_rfl
end Go.Proofs.YtceaohiahajolaaGreatDoor.VM
namespace Go.Proofs.YtceaohiahajolaaGreatDoor.VM
theorem wi58_11:mi58 E58_11 = true:=by kernel_rfl
end Go.Proofs.YtceaohiahajolaaGreatDoor.VM
