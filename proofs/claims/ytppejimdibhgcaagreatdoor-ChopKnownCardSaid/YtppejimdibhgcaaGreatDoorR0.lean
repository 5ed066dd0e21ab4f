/-
  A run by the kernel. No conditions.
-/
import Derived.Test.YtppejimdibhgcaaGreatDoorC
import Derived.KernelRfl
namespace Go.Proofs.YtppejimdibhgcaaGreatDoor.VM
theorem w8:(env prI 100000).call 8 0 (m0 64 stT) endK = .ok .nrm 35 mZ:=by kernel_rfl
end Go.Proofs.YtppejimdibhgcaaGreatDoor.VM
namespace Go.Proofs.YtppejimdibhgcaaGreatDoor.VM
theorem rK:(env prK 100000).call 3 0 (m0 64 stT) endK = .ok .nrm 35 mZ:=by kernel_rfl
end Go.Proofs.YtppejimdibhgcaaGreatDoor.VM
