/-
  A run by the kernel. No conditions.
-/
import Derived.Test.YtjdjffbnnapidaaGreatDoorC
import Derived.KernelRfl
namespace Go.Proofs.YtjdjffbnnapidaaGreatDoor.VM
theorem rd160:RT 5 d160 = RV d160:=by kernel_rfl
theorem rd148:RT 5 d148 = RV d148:=by kernel_rfl
theorem rd162:RT 5 d162 = RV d162:=by kernel_rfl
theorem rd150:RT 5 d150 = RV d150:=by kernel_rfl
theorem rd58:RT 5 d58 = RV d58:=by kernel_rfl
theorem rd85:RT 4 d85 = RV d85:=by kernel_rfl
end Go.Proofs.YtjdjffbnnapidaaGreatDoor.VM
