/-
  A run by the kernel. No conditions.
-/
import Derived.Test.YtjdjffbnnapidaaGreatDoorC
import Derived.KernelRfl
namespace Go.Proofs.YtjdjffbnnapidaaGreatDoor.VM
theorem rd145:RT 4 d145 = RV d145:=by kernel_rfl
theorem rd155:RT 6 d155 = RV d155:=by kernel_rfl
theorem rd159:RT 6 d159 = RV d159:=by kernel_rfl
theorem rd165:RT 6 d165 = RV d165:=by kernel_rfl
theorem rd147:RT 6 d147 = RV d147:=by kernel_rfl
theorem rd153:RT 6 d153 = RV d153:=by kernel_rfl
theorem rd170:RT 5 d170 = RV d170:=by kernel_rfl
theorem rd178:RT 5 d178 = RV d178:=by kernel_rfl
theorem rd115:RT 6 d115 = RV d115:=by kernel_rfl
end Go.Proofs.YtjdjffbnnapidaaGreatDoor.VM
