/-
  A run by the kernel. No conditions.
-/
import Derived.Test.YtjdjffbnnapidaaGreatDoorC
import Derived.KernelRfl
namespace Go.Proofs.YtjdjffbnnapidaaGreatDoor.VM
theorem rd92:RT 5 d92 = RV d92:=by kernel_rfl
theorem rd46:RT 5 d46 = RV d46:=by kernel_rfl
theorem rd53:RT 6 d53 = RV d53:=by kernel_rfl
theorem rd80:RT 5 d80 = RV d80:=by kernel_rfl
theorem rd176:RT 5 d176 = RV d176:=by kernel_rfl
theorem rd34:RT 5 d34 = RV d34:=by kernel_rfl
theorem rd61:RT 4 d61 = RV d61:=by kernel_rfl
theorem rd49:RT 4 d49 = RV d49:=by kernel_rfl
theorem rd172:RT 5 d172 = RV d172:=by kernel_rfl
theorem rd188:RT 5 d188 = RV d188:=by kernel_rfl
theorem rd73:RT 4 d73 = RV d73:=by kernel_rfl
end Go.Proofs.YtjdjffbnnapidaaGreatDoor.VM
