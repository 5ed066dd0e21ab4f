/-
  A run by the kernel. No conditions.
-/
import Derived.Test.YtfkcmflhiccmkaaGreatDoorC
import Derived.KernelRfl
namespace Go.Proofs.YtfkcmflhiccmkaaGreatDoor.VM
theorem rd4a1:(env prM 100000).call 4 (cellsN d4a1.as) (mA 53 stT (cellsN (0 :: d4a1.cs))) endK = .ok .nrm 35 mZ:=by kernel_rfl
theorem rd4b1:(env prM 100000).call 4 (cellsN d4b1.as) (mA 53 stT (cellsN (0 :: d4b1.cs))) endK = .ok .nrm 35 mZ:=by kernel_rfl
end Go.Proofs.YtfkcmflhiccmkaaGreatDoor.VM
