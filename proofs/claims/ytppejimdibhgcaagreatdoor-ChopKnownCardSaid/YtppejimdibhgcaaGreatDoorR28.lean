/-
  A run by the kernel. No conditions.
-/
import Derived.Test.YtppejimdibhgcaaGreatDoorC
import Derived.KernelRfl
namespace Go.Proofs.YtppejimdibhgcaaGreatDoor.VM
theorem w9_0:bAnd (mr4 D4_9_0) (bAnd (mr5 D5_9_0) (bAnd (mr6 D6_9_0) (mr7 D7_9_0))) = true:=by kernel_rfl
end Go.Proofs.YtppejimdibhgcaaGreatDoor.VM
