/-
  A run by the kernel. No conditions.
-/
import Derived.Test.YtfkcmflhiccmkaaGreatDoorC
import Derived.KernelRfl
namespace Go.Proofs.YtfkcmflhiccmkaaGreatDoor.VM
theorem rd6a1:(env prM 100000).call 6 (cellsN d6a1.as) (mA 53 stT (cellsN (0 :: d6a1.cs))) endK = .ok .nrm 35 mZ:=by kernel_rfl
theorem rd6b1:(env prM 100000).call 6 (cellsN d6b1.as) (mA 53 stT (cellsN (0 :: d6b1.cs))) endK = .ok .nrm 35 mZ:=by kernel_rfl
end Go.Proofs.YtfkcmflhiccmkaaGreatDoor.VM
