/-
  A run by the kernel. No conditions.
-/
import Derived.Test.YtjdjffbnnapidaaGreatDoorC
import Derived.KernelRfl
namespace Go.Proofs.YtjdjffbnnapidaaGreatDoor.VM
theorem w8:(env prI 100000).call 9 0 (m0 58 stT) endK = .ok .nrm 35 mZ:=by kernel_rfl
end Go.Proofs.YtjdjffbnnapidaaGreatDoor.VM
namespace Go.Proofs.YtjdjffbnnapidaaGreatDoor.VM
theorem rK:(env prK 100000).call 3 0 (m0 58 stT) endK = .ok .nrm 35 mZ:=by kernel_rfl
end Go.Proofs.YtjdjffbnnapidaaGreatDoor.VM
