/-
  A run by the kernel. No conditions.
-/
import Derived.Test.YtceaohiahajolaaGreatDoorC
import Derived.KernelRfl
namespace Go.Proofs.YtceaohiahajolaaGreatDoor.VM
theorem w8:(env prI 100000).call 10 0 (m0 59 stT) endK = .ok .nrm 35 mZ:=by kernel_rfl
end Go.Proofs.YtceaohiahajolaaGreatDoor.VM
namespace Go.Proofs.YtceaohiahajolaaGreatDoor.VM
theorem rK:(env prK 100000).call 3 0 (m0 59 stT) endK = .ok .nrm 35 mZ:=by kernel_rfl
end Go.Proofs.YtceaohiahajolaaGreatDoor.VM
