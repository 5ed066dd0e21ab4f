/-
  A run by the kernel. No conditions.
-/
import Derived.Test.YtppejimdibhgcaaGreatDoorC
import Derived.KernelRfl
namespace Go.Proofs.YtppejimdibhgcaaGreatDoor.VM
theorem w6_1:mr7 D7_6_1 = true:=by kernel_rfl
end Go.Proofs.YtppejimdibhgcaaGreatDoor.VM
