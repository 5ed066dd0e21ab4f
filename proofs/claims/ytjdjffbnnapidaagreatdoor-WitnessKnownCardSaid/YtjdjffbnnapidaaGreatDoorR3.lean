/-
  A run by the kernel. No conditions.
-/
import Derived.Test.YtjdjffbnnapidaaGreatDoorC
import Derived.KernelRfl
namespace Go.Proofs.YtjdjffbnnapidaaGreatDoor.VM
theorem rd154:RT 5 d154 = RV d154:=by kernel_rfl
theorem rd168:RT 4 d168 = RV d168:=by kernel_rfl
theorem rd180:RT 4 d180 = RV d180:=by kernel_rfl
theorem rd158:RT 5 d158 = RV d158:=by kernel_rfl
theorem rd108:RT 4 d108 = RV d108:=by kernel_rfl
end Go.Proofs.YtjdjffbnnapidaaGreatDoor.VM
