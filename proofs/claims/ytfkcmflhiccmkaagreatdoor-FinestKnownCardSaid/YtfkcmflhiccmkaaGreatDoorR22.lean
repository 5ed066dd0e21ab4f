/-
  A run by the kernel. No conditions.
-/
import Derived.Test.YtfkcmflhiccmkaaGreatDoorC
import Derived.KernelRfl
namespace Go.Proofs.YtfkcmflhiccmkaaGreatDoor.VM
theorem rd6a6:(env prM 100000).call 6 (cellsN d6a6.as) (mA 53 stT (cellsN (0 :: d6a6.cs))) endK = .ok .nrm 35 mZ:=by kernel_rfl
theorem rd6b6:(env prM 100000).call 6 (cellsN d6b6.as) (mA 53 stT (cellsN (0 :: d6b6.cs))) endK = .ok .nrm 35 mZ:=by kernel_rfl
end Go.Proofs.YtfkcmflhiccmkaaGreatDoor.VM
