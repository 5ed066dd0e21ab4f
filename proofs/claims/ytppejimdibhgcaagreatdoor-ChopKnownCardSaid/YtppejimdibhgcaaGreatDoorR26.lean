/-
  A run by the kernel. No conditions.
-/
import Derived.Test.YtppejimdibhgcaaGreatDoorC
import Derived.KernelRfl
namespace Go.Proofs.YtppejimdibhgcaaGreatDoor.VM
theorem w8_0:bAnd (mr4 D4_8_0) (bAnd (mr5 D5_8_0) (bAnd (mr6 D6_8_0) (mr7 D7_8_0))) = true:=by kernel_rfl
end Go.Proofs.YtppejimdibhgcaaGreatDoor.VM
