/-
  A run by the kernel. No conditions.
-/
import Derived.Test.YtjdjffbnnapidaaGreatDoorC
import Derived.KernelRfl
namespace Go.Proofs.YtjdjffbnnapidaaGreatDoor.VM
theorem rd36:RT 4 d36 = RV d36:=by kernel_rfl
theorem rd24:RT 4 d24 = RV d24:=by kernel_rfl
theorem rd163:RT 6 d163 = RV d163:=by kernel_rfl
theorem rd151:RT 6 d151 = RV d151:=by kernel_rfl
theorem rd161:RT 6 d161 = RV d161:=by kernel_rfl
theorem rd149:RT 6 d149 = RV d149:=by kernel_rfl
theorem rd157:RT 4 d157 = RV d157:=by kernel_rfl
theorem rd47:RT 6 d47 = RV d47:=by kernel_rfl
end Go.Proofs.YtjdjffbnnapidaaGreatDoor.VM
