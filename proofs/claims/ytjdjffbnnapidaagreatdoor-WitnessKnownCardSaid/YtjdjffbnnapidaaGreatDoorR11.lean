/-
  A run by the kernel. No conditions.
-/
import Derived.Test.YtjdjffbnnapidaaGreatDoorC
import Derived.KernelRfl
namespace Go.Proofs.YtjdjffbnnapidaaGreatDoor.VM
theorem rd130:RT 5 d130 = RV d130:=by kernel_rfl
theorem rd118:RT 5 d118 = RV d118:=by kernel_rfl
theorem rd106:RT 5 d106 = RV d106:=by kernel_rfl
theorem rd174:RT 5 d174 = RV d174:=by kernel_rfl
theorem rd186:RT 5 d186 = RV d186:=by kernel_rfl
theorem rd138:RT 5 d138 = RV d138:=by kernel_rfl
theorem rd126:RT 5 d126 = RV d126:=by kernel_rfl
theorem rd116:RT 5 d116 = RV d116:=by kernel_rfl
theorem rd104:RT 5 d104 = RV d104:=by kernel_rfl
theorem rd65:RT 6 d65 = RV d65:=by kernel_rfl
end Go.Proofs.YtjdjffbnnapidaaGreatDoor.VM
