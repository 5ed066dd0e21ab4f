/-
  A run by the kernel. No conditions.
-/
import Derived.Test.YtfkcmflhiccmkaaGreatDoorC
import Derived.KernelRfl
namespace Go.Proofs.YtfkcmflhiccmkaaGreatDoor.VM
theorem rd6a5:(env prM 100000).call 6 (cellsN d6a5.as) (mA 53 stT (cellsN (0 :: d6a5.cs))) endK = .ok .nrm 35 mZ:=by kernel_rfl
theorem rd6b5:(env prM 100000).call 6 (cellsN d6b5.as) (mA 53 stT (cellsN (0 :: d6b5.cs))) endK = .ok .nrm 35 mZ:=by kernel_rfl
end Go.Proofs.YtfkcmflhiccmkaaGreatDoor.VM
