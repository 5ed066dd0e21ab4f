/-
  A run by the kernel. No conditions.
-/
import Derived.Test.YtjdjffbnnapidaaGreatDoorC
import Derived.KernelRfl
namespace Go.Proofs.YtjdjffbnnapidaaGreatDoor.VM
theorem rd63:RT 6 d63 = RV d63:=by kernel_rfl
theorem rd69:RT 6 d69 = RV d69:=by kernel_rfl
theorem rd51:RT 6 d51 = RV d51:=by kernel_rfl
theorem rd57:RT 6 d57 = RV d57:=by kernel_rfl
theorem rd86:RT 5 d86 = RV d86:=by kernel_rfl
theorem rd124:RT 5 d124 = RV d124:=by kernel_rfl
theorem rd74:RT 5 d74 = RV d74:=by kernel_rfl
theorem rd114:RT 5 d114 = RV d114:=by kernel_rfl
theorem rd102:RT 5 d102 = RV d102:=by kernel_rfl
theorem rd112:RT 5 d112 = RV d112:=by kernel_rfl
theorem rd100:RT 5 d100 = RV d100:=by kernel_rfl
end Go.Proofs.YtjdjffbnnapidaaGreatDoor.VM
