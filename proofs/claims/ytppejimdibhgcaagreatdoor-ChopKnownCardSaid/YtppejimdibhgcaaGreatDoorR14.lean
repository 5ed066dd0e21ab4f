/-
  A run by the kernel. No conditions.
-/
import Derived.Test.YtppejimdibhgcaaGreatDoorC
import Derived.KernelRfl
namespace Go.Proofs.YtppejimdibhgcaaGreatDoor.VM
theorem w5_3:mr4 D4_5_3 = true:=by kernel_rfl
end Go.Proofs.YtppejimdibhgcaaGreatDoor.VM
