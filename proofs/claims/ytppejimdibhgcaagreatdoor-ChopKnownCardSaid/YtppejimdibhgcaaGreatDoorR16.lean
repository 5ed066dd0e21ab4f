/-
  A run by the kernel. No conditions.
-/
import Derived.Test.YtppejimdibhgcaaGreatDoorC
import Derived.KernelRfl
namespace Go.Proofs.YtppejimdibhgcaaGreatDoor.VM
theorem w5_5:bAnd (mr5 D5_5_5) (bAnd (mr6 D6_5_5) (mr7 D7_5_5)) = true:=by kernel_rfl
end Go.Proofs.YtppejimdibhgcaaGreatDoor.VM
