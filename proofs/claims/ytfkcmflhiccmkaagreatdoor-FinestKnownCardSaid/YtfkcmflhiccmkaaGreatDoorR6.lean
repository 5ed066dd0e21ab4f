/-
  A run by the kernel. No conditions.
-/
import Derived.Test.YtfkcmflhiccmkaaGreatDoorC
import Derived.KernelRfl
namespace Go.Proofs.YtfkcmflhiccmkaaGreatDoor.VM
theorem rd4a4:(env prM 100000).call 4 (cellsN d4a4.as) (mA 53 stT (cellsN (0 :: d4a4.cs))) endK = .ok .nrm 35 mZ:=by kernel_rfl
theorem rd4b4:(env prM 100000).call 4 (cellsN d4b4.as) (mA 53 stT (cellsN (0 :: d4b4.cs))) endK = .ok .nrm 35 mZ:=by kernel_rfl
end Go.Proofs.YtfkcmflhiccmkaaGreatDoor.VM
