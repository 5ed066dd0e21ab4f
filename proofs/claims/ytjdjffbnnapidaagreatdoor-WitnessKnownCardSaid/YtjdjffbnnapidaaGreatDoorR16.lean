/-
  A run by the kernel. No conditions.
-/
import Derived.Test.YtjdjffbnnapidaaGreatDoorC
import Derived.KernelRfl
namespace Go.Proofs.YtjdjffbnnapidaaGreatDoor.VM
theorem rd40:RT 5 d40 = RV d40:=by kernel_rfl
theorem rd28:RT 5 d28 = RV d28:=by kernel_rfl
theorem rd137:RT 6 d137 = RV d137:=by kernel_rfl
theorem rd125:RT 6 d125 = RV d125:=by kernel_rfl
theorem rd185:RT 6 d185 = RV d185:=by kernel_rfl
theorem rd191:RT 6 d191 = RV d191:=by kernel_rfl
theorem rd169:RT 4 d169 = RV d169:=by kernel_rfl
theorem rd173:RT 6 d173 = RV d173:=by kernel_rfl
theorem rd179:RT 6 d179 = RV d179:=by kernel_rfl
theorem rd183:RT 6 d183 = RV d183:=by kernel_rfl
theorem rd189:RT 6 d189 = RV d189:=by kernel_rfl
theorem rd171:RT 6 d171 = RV d171:=by kernel_rfl
theorem rd177:RT 6 d177 = RV d177:=by kernel_rfl
theorem rd133:RT 4 d133 = RV d133:=by kernel_rfl
theorem rd35:RT 6 d35 = RV d35:=by kernel_rfl
end Go.Proofs.YtjdjffbnnapidaaGreatDoor.VM
