/-
  A run by the kernel. No conditions.
-/
import Derived.Test.YtjdjffbnnapidaaGreatDoorC
import Derived.KernelRfl
namespace Go.Proofs.YtjdjffbnnapidaaGreatDoor.VM
theorem rd107:RT 6 d107 = RV d107:=by kernel_rfl
theorem rd111:RT 6 d111 = RV d111:=by kernel_rfl
theorem rd117:RT 6 d117 = RV d117:=by kernel_rfl
theorem rd103:RT 6 d103 = RV d103:=by kernel_rfl
theorem rd99:RT 6 d99 = RV d99:=by kernel_rfl
theorem rd105:RT 6 d105 = RV d105:=by kernel_rfl
theorem rd43:RT 6 d43 = RV d43:=by kernel_rfl
theorem rd39:RT 6 d39 = RV d39:=by kernel_rfl
theorem rd45:RT 6 d45 = RV d45:=by kernel_rfl
theorem rd31:RT 6 d31 = RV d31:=by kernel_rfl
theorem rd27:RT 6 d27 = RV d27:=by kernel_rfl
theorem rd33:RT 6 d33 = RV d33:=by kernel_rfl
theorem rd89:RT 6 d89 = RV d89:=by kernel_rfl
theorem rd77:RT 6 d77 = RV d77:=by kernel_rfl
theorem rd95:RT 6 d95 = RV d95:=by kernel_rfl
theorem rd83:RT 6 d83 = RV d83:=by kernel_rfl
theorem rd91:RT 6 d91 = RV d91:=by kernel_rfl
theorem rd87:RT 6 d87 = RV d87:=by kernel_rfl
theorem rd93:RT 6 d93 = RV d93:=by kernel_rfl
theorem rd79:RT 6 d79 = RV d79:=by kernel_rfl
end Go.Proofs.YtjdjffbnnapidaaGreatDoor.VM
