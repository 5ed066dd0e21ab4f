/-
  A run by the kernel. No conditions.
-/
import Derived.Test.YtfkcmflhiccmkaaGreatDoorC
import Derived.KernelRfl
namespace Go.Proofs.YtfkcmflhiccmkaaGreatDoor.VM
theorem rd6a2:(env prM 100000).call 6 (cellsN d6a2.as) (mA 53 stT (cellsN (0 :: d6a2.cs))) endK = .ok .nrm 35 mZ:=by kernel_rfl
theorem rd6b2:(env prM 100000).call 6 (cellsN d6b2.as) (mA 53 stT (cellsN (0 :: d6b2.cs))) endK = .ok .nrm 35 mZ:=by kernel_rfl
end Go.Proofs.YtfkcmflhiccmkaaGreatDoor.VM
