/-
  A run by the kernel. No conditions.
-/
import Derived.Test.YtjdjffbnnapidaaGreatDoorC
import Derived.KernelRfl
namespace Go.Proofs.YtjdjffbnnapidaaGreatDoor.VM
theorem rd62:RT 5 d62 = RV d62:=by kernel_rfl
theorem rd50:RT 5 d50 = RV d50:=by kernel_rfl
theorem rd84:RT 4 d84 = RV d84:=by kernel_rfl
theorem rd72:RT 4 d72 = RV d72:=by kernel_rfl
theorem rd68:RT 5 d68 = RV d68:=by kernel_rfl
theorem rd167:RT 6 d167 = RV d167:=by kernel_rfl
end Go.Proofs.YtjdjffbnnapidaaGreatDoor.VM
