/-
  A run by the kernel. No conditions.
-/
import Derived.Test.YtfkcmflhiccmkaaGreatDoorC
import Derived.KernelRfl
namespace Go.Proofs.YtfkcmflhiccmkaaGreatDoor.VM
theorem rd6a0:(env prM 100000).call 6 (cellsN d6a0.as) (mA 53 stT (cellsN (0 :: d6a0.cs))) endK = .ok .nrm 35 mZ:=by kernel_rfl
theorem rd6b0:(env prM 100000).call 6 (cellsN d6b0.as) (mA 53 stT (cellsN (0 :: d6b0.cs))) endK = .ok .nrm 35 mZ:=by kernel_rfl
end Go.Proofs.YtfkcmflhiccmkaaGreatDoor.VM
