/-
  A run by the kernel. No conditions.
-/
import Derived.Test.YtppejimdibhgcaaGreatDoorC
import Derived.KernelRfl
namespace Go.Proofs.YtppejimdibhgcaaGreatDoor.VM
theorem w5_4:mx5 D5_5_4 = true:=by kernel_rfl
end Go.Proofs.YtppejimdibhgcaaGreatDoor.VM
