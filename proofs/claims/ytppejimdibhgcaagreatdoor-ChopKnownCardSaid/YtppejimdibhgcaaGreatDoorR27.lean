/-
  A run by the kernel. No conditions.
-/
import Derived.Test.YtppejimdibhgcaaGreatDoorC
import Derived.KernelRfl
namespace Go.Proofs.YtppejimdibhgcaaGreatDoor.VM
theorem w8_1:mr7 D7_8_1 = true:=by kernel_rfl
end Go.Proofs.YtppejimdibhgcaaGreatDoor.VM
