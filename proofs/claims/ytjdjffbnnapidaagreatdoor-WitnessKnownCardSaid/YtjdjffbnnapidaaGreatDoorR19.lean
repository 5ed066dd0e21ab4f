/-
  A run by the kernel. No conditions.
-/
import Derived.Test.YtjdjffbnnapidaaGreatDoorC
import Derived.KernelRfl
namespace Go.Proofs.YtjdjffbnnapidaaGreatDoor.VM
theorem rd75:RT 6 d75 = RV d75:=by kernel_rfl
theorem rd81:RT 6 d81 = RV d81:=by kernel_rfl
theorem rd14:RT 5 d14 = RV d14:=by kernel_rfl
theorem rd16:RT 5 d16 = RV d16:=by kernel_rfl
theorem rd18:RT 5 d18 = RV d18:=by kernel_rfl
theorem rd20:RT 5 d20 = RV d20:=by kernel_rfl
theorem rd22:RT 5 d22 = RV d22:=by kernel_rfl
theorem rd2:RT 5 d2 = RV d2:=by kernel_rfl
theorem rd4:RT 5 d4 = RV d4:=by kernel_rfl
theorem rd6:RT 5 d6 = RV d6:=by kernel_rfl
theorem rd8:RT 5 d8 = RV d8:=by kernel_rfl
theorem rd10:RT 5 d10 = RV d10:=by kernel_rfl
theorem rd17:RT 6 d17 = RV d17:=by kernel_rfl
theorem rd5:RT 6 d5 = RV d5:=by kernel_rfl
theorem rd13:RT 4 d13 = RV d13:=by kernel_rfl
theorem rd1:RT 4 d1 = RV d1:=by kernel_rfl
theorem rd23:RT 6 d23 = RV d23:=by kernel_rfl
theorem rd11:RT 6 d11 = RV d11:=by kernel_rfl
theorem rd19:RT 6 d19 = RV d19:=by kernel_rfl
theorem rd15:RT 6 d15 = RV d15:=by kernel_rfl
theorem rd21:RT 6 d21 = RV d21:=by kernel_rfl
theorem rd7:RT 6 d7 = RV d7:=by kernel_rfl
theorem rd3:RT 6 d3 = RV d3:=by kernel_rfl
theorem rd9:RT 6 d9 = RV d9:=by kernel_rfl
end Go.Proofs.YtjdjffbnnapidaaGreatDoor.VM
