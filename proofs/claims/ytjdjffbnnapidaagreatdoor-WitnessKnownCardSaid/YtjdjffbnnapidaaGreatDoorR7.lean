/-
  A run by the kernel. No conditions.
-/
import Derived.Test.YtjdjffbnnapidaaGreatDoorC
import Derived.KernelRfl
namespace Go.Proofs.YtjdjffbnnapidaaGreatDoor.VM
theorem rd56:RT 5 d56 = RV d56:=by kernel_rfl
theorem rd66:RT 5 d66 = RV d66:=by kernel_rfl
theorem rd96:RT 4 d96 = RV d96:=by kernel_rfl
theorem rd54:RT 5 d54 = RV d54:=by kernel_rfl
theorem rd64:RT 5 d64 = RV d64:=by kernel_rfl
theorem rd52:RT 5 d52 = RV d52:=by kernel_rfl
end Go.Proofs.YtjdjffbnnapidaaGreatDoor.VM
