/-
  A run by the kernel. No conditions.
-/
import Derived.Test.YtjdjffbnnapidaaGreatDoorC
import Derived.KernelRfl
namespace Go.Proofs.YtjdjffbnnapidaaGreatDoor.VM
theorem rd184:RT 5 d184 = RV d184:=by kernel_rfl
theorem rd110:RT 5 d110 = RV d110:=by kernel_rfl
theorem rd98:RT 5 d98 = RV d98:=by kernel_rfl
theorem rd140:RT 5 d140 = RV d140:=by kernel_rfl
theorem rd44:RT 5 d44 = RV d44:=by kernel_rfl
theorem rd128:RT 5 d128 = RV d128:=by kernel_rfl
theorem rd32:RT 5 d32 = RV d32:=by kernel_rfl
theorem rd71:RT 6 d71 = RV d71:=by kernel_rfl
theorem rd59:RT 6 d59 = RV d59:=by kernel_rfl
theorem rd136:RT 5 d136 = RV d136:=by kernel_rfl
theorem rd42:RT 5 d42 = RV d42:=by kernel_rfl
end Go.Proofs.YtjdjffbnnapidaaGreatDoor.VM
