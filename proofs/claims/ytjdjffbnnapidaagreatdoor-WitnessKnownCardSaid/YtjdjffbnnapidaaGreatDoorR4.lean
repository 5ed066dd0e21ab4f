/-
  A run by the kernel. No conditions.
-/
import Derived.Test.YtjdjffbnnapidaaGreatDoorC
import Derived.KernelRfl
namespace Go.Proofs.YtjdjffbnnapidaaGreatDoor.VM
theorem rd132:RT 4 d132 = RV d132:=by kernel_rfl
theorem rd146:RT 5 d146 = RV d146:=by kernel_rfl
theorem rd152:RT 5 d152 = RV d152:=by kernel_rfl
theorem rd120:RT 4 d120 = RV d120:=by kernel_rfl
theorem rd70:RT 5 d70 = RV d70:=by kernel_rfl
end Go.Proofs.YtjdjffbnnapidaaGreatDoor.VM
