/-
  A run by the kernel. No conditions.
-/
import Derived.Test.YtjdjffbnnapidaaGreatDoorC
import Derived.KernelRfl
namespace Go.Proofs.YtjdjffbnnapidaaGreatDoor.VM
theorem rd60:RT 4 d60 = RV d60:=by kernel_rfl
theorem rd48:RT 4 d48 = RV d48:=by kernel_rfl
theorem re0:RT 15 e0 = RV e0:=by kernel_rfl
theorem rd192:RT 6 d192 = RV d192:=by kernel_rfl
end Go.Proofs.YtjdjffbnnapidaaGreatDoor.VM
