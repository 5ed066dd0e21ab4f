/-
  A run by the kernel. No conditions.
-/
import Derived.Test.YtfkcmflhiccmkaaGreatDoorC
import Derived.KernelRfl
namespace Go.Proofs.YtfkcmflhiccmkaaGreatDoor.VM
theorem rd4a5:(env prM 100000).call 4 (cellsN d4a5.as) (mA 53 stT (cellsN (0 :: d4a5.cs))) endK = .ok .nrm 35 mZ:=by kernel_rfl
theorem rd4b5:(env prM 100000).call 4 (cellsN d4b5.as) (mA 53 stT (cellsN (0 :: d4b5.cs))) endK = .ok .nrm 35 mZ:=by kernel_rfl
end Go.Proofs.YtfkcmflhiccmkaaGreatDoor.VM
