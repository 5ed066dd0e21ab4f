/-
  A run by the kernel. No conditions.
-/
import Derived.Test.YtjdjffbnnapidaaGreatDoorC
import Derived.KernelRfl
namespace Go.Proofs.YtjdjffbnnapidaaGreatDoor.VM
theorem rd38:RT 5 d38 = RV d38:=by kernel_rfl
theorem rd26:RT 5 d26 = RV d26:=by kernel_rfl
theorem rd187:RT 6 d187 = RV d187:=by kernel_rfl
theorem rd175:RT 6 d175 = RV d175:=by kernel_rfl
theorem rd90:RT 5 d90 = RV d90:=by kernel_rfl
theorem rd78:RT 5 d78 = RV d78:=by kernel_rfl
theorem rd139:RT 6 d139 = RV d139:=by kernel_rfl
theorem rd127:RT 6 d127 = RV d127:=by kernel_rfl
theorem rd30:RT 5 d30 = RV d30:=by kernel_rfl
theorem rd88:RT 5 d88 = RV d88:=by kernel_rfl
theorem rd76:RT 5 d76 = RV d76:=by kernel_rfl
theorem rd181:RT 4 d181 = RV d181:=by kernel_rfl
theorem rd0:RT 4 d0 = RV d0:=by kernel_rfl
end Go.Proofs.YtjdjffbnnapidaaGreatDoor.VM
