/-
  A run by the kernel. No conditions.
-/
import Derived.Test.YtfkcmflhiccmkaaGreatDoorC
import Derived.KernelRfl
namespace Go.Proofs.YtfkcmflhiccmkaaGreatDoor.VM
theorem rd5a6:(env prM 100000).call 5 (cellsN d5a6.as) (mA 53 stT (cellsN (0 :: d5a6.cs))) endK = .ok .nrm 35 mZ:=by kernel_rfl
end Go.Proofs.YtfkcmflhiccmkaaGreatDoor.VM
