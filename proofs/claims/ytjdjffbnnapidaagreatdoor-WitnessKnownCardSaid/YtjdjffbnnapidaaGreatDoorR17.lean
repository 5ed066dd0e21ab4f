/-
  A run by the kernel. No conditions.
-/
import Derived.Test.YtjdjffbnnapidaaGreatDoorC
import Derived.KernelRfl
namespace Go.Proofs.YtjdjffbnnapidaaGreatDoor.VM
theorem rd121:RT 4 d121 = RV d121:=by kernel_rfl
theorem rd143:RT 6 d143 = RV d143:=by kernel_rfl
theorem rd131:RT 6 d131 = RV d131:=by kernel_rfl
theorem rd135:RT 6 d135 = RV d135:=by kernel_rfl
theorem rd141:RT 6 d141 = RV d141:=by kernel_rfl
theorem rd123:RT 6 d123 = RV d123:=by kernel_rfl
theorem rd129:RT 6 d129 = RV d129:=by kernel_rfl
theorem rd12:RT 4 d12 = RV d12:=by kernel_rfl
theorem rd41:RT 6 d41 = RV d41:=by kernel_rfl
theorem rd29:RT 6 d29 = RV d29:=by kernel_rfl
theorem rd113:RT 6 d113 = RV d113:=by kernel_rfl
theorem rd101:RT 6 d101 = RV d101:=by kernel_rfl
theorem rd109:RT 4 d109 = RV d109:=by kernel_rfl
theorem rd37:RT 4 d37 = RV d37:=by kernel_rfl
theorem rd97:RT 4 d97 = RV d97:=by kernel_rfl
theorem rd25:RT 4 d25 = RV d25:=by kernel_rfl
theorem rd119:RT 6 d119 = RV d119:=by kernel_rfl
end Go.Proofs.YtjdjffbnnapidaaGreatDoor.VM
