/-
  A run by the kernel. No conditions.
-/
import Derived.Test.YtppejimdibhgcaaGreatDoorC
import Derived.KernelRfl
namespace Go.Proofs.YtppejimdibhgcaaGreatDoor.VM
theorem w2_0:bAnd (mr4 D4_2_0) (bAnd (mr5 D5_2_0) (bAnd (mr6 D6_2_0) (mr7 D7_2_0))) = true:=by kernel_rfl
end Go.Proofs.YtppejimdibhgcaaGreatDoor.VM
