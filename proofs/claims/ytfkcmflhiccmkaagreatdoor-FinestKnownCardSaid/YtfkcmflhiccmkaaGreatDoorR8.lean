/-
  A run by the kernel. No conditions.
-/
import Derived.Test.YtfkcmflhiccmkaaGreatDoorC
import Derived.KernelRfl
namespace Go.Proofs.YtfkcmflhiccmkaaGreatDoor.VM
theorem rd4a6:(env prM 100000).call 4 (cellsN d4a6.as) (mA 53 stT (cellsN (0 :: d4a6.cs))) endK = .ok .nrm 35 mZ:=by kernel_rfl
theorem rd4b6:(env prM 100000).call 4 (cellsN d4b6.as) (mA 53 stT (cellsN (0 :: d4b6.cs))) endK = .ok .nrm 35 mZ:=by kernel_rfl
end Go.Proofs.YtfkcmflhiccmkaaGreatDoor.VM
