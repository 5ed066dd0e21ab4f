/-
  A run by the kernel. No conditions.
-/
import Derived.Test.YtfkcmflhiccmkaaGreatDoorC
import Derived.KernelRfl
namespace Go.Proofs.YtfkcmflhiccmkaaGreatDoor.VM
theorem rd6a3:(env prM 100000).call 6 (cellsN d6a3.as) (mA 53 stT (cellsN (0 :: d6a3.cs))) endK = .ok .nrm 35 mZ:=by kernel_rfl
theorem rd6b3:(env prM 100000).call 6 (cellsN d6b3.as) (mA 53 stT (cellsN (0 :: d6b3.cs))) endK = .ok .nrm 35 mZ:=by kernel_rfl
end Go.Proofs.YtfkcmflhiccmkaaGreatDoor.VM
