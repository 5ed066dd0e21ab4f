/-
  A run by the kernel. No conditions.
-/
import Derived.Test.YtjdjffbnnapidaaGreatDoorC
import Derived.KernelRfl
namespace Go.Proofs.YtjdjffbnnapidaaGreatDoor.VM
theorem rd182:RT 5 d182 = RV d182:=by kernel_rfl
theorem rd190:RT 5 d190 = RV d190:=by kernel_rfl
theorem rd67:RT 6 d67 = RV d67:=by kernel_rfl
theorem rd55:RT 6 d55 = RV d55:=by kernel_rfl
theorem rd94:RT 5 d94 = RV d94:=by kernel_rfl
theorem rd82:RT 5 d82 = RV d82:=by kernel_rfl
theorem rd134:RT 5 d134 = RV d134:=by kernel_rfl
theorem rd142:RT 5 d142 = RV d142:=by kernel_rfl
theorem rd122:RT 5 d122 = RV d122:=by kernel_rfl
end Go.Proofs.YtjdjffbnnapidaaGreatDoor.VM
