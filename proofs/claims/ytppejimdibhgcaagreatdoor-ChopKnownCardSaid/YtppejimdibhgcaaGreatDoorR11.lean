/-
  A run by the kernel. No conditions.
-/
import Derived.Test.YtppejimdibhgcaaGreatDoorC
import Derived.KernelRfl
namespace Go.Proofs.YtppejimdibhgcaaGreatDoor.VM
theorem w5_0:bAnd (mr4 D4_5_0) (bAnd (mr5 D5_5_0) (bAnd (mr6 D6_5_0) (mr7 D7_5_0))) = true:=by kernel_rfl
end Go.Proofs.YtppejimdibhgcaaGreatDoor.VM
