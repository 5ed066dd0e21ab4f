/-
  A run by the kernel. No conditions.
-/
import Derived.Test.YtjdjffbnnapidaaGreatDoorC
import Derived.KernelRfl
namespace Go.Proofs.YtjdjffbnnapidaaGreatDoor.VM
theorem rd156:RL 4 d156 = RV d156:=by kernel_rfl
theorem rd144:RL 4 d144 = RV d144:=by kernel_rfl
theorem rd166:RT 5 d166 = RV d166:=by kernel_rfl
theorem rd164:RT 5 d164 = RV d164:=by kernel_rfl
end Go.Proofs.YtjdjffbnnapidaaGreatDoor.VM
