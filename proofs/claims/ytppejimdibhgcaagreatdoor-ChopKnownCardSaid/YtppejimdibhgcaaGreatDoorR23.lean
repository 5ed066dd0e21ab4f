/-
  A run by the kernel. No conditions.
-/
import Derived.Test.YtppejimdibhgcaaGreatDoorC
import Derived.KernelRfl
namespace Go.Proofs.YtppejimdibhgcaaGreatDoor.VM
theorem w7_0:bAnd (mr4 D4_7_0) (bAnd (mr5 D5_7_0) (bAnd (mr6 D6_7_0) (mr7 D7_7_0))) = true:=by kernel_rfl
end Go.Proofs.YtppejimdibhgcaaGreatDoor.VM
