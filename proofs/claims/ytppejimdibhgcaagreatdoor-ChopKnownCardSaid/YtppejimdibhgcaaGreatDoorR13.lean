/-
  A run by the kernel. No conditions.
-/
import Derived.Test.YtppejimdibhgcaaGreatDoorC
import Derived.KernelRfl
namespace Go.Proofs.YtppejimdibhgcaaGreatDoor.VM
theorem w5_2:mr7 D7_5_2 = true:=by kernel_rfl
end Go.Proofs.YtppejimdibhgcaaGreatDoor.VM
