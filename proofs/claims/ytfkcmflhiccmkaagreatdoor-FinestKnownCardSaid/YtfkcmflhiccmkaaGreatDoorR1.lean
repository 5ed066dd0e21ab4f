/-
  A run by the kernel. No conditions.
-/
import Derived.Test.YtfkcmflhiccmkaaGreatDoorC
import Derived.KernelRfl
namespace Go.Proofs.YtfkcmflhiccmkaaGreatDoor.VM
theorem rd4a7:(env prM 100000).call 4 (cellsN d4a7.as) (mA 53 stT (cellsN (0 :: d4a7.cs))) endK = .ok .nrm 35 mZ:=by kernel_rfl
theorem rd4b7:(env prM 100000).call 4 (cellsN d4b7.as) (mA 53 stT (cellsN (0 :: d4b7.cs))) endK = .ok .nrm 35 mZ:=by kernel_rfl
end Go.Proofs.YtfkcmflhiccmkaaGreatDoor.VM
namespace Go.Proofs.YtfkcmflhiccmkaaGreatDoor.VM
theorem rd5a7:(env prM 100000).call 5 (cellsN d5a7.as) (mA 53 stT (cellsN (0 :: d5a7.cs))) endK = .ok .nrm 35 mZ:=by kernel_rfl
end Go.Proofs.YtfkcmflhiccmkaaGreatDoor.VM
namespace Go.Proofs.YtfkcmflhiccmkaaGreatDoor.VM
theorem rd6a7:(env prM 100000).call 6 (cellsN d6a7.as) (mA 53 stT (cellsN (0 :: d6a7.cs))) endK = .ok .nrm 35 mZ:=by kernel_rfl
theorem rd6b7:(env prM 100000).call 6 (cellsN d6b7.as) (mA 53 stT (cellsN (0 :: d6b7.cs))) endK = .ok .nrm 35 mZ:=by kernel_rfl
end Go.Proofs.YtfkcmflhiccmkaaGreatDoor.VM
namespace Go.Proofs.YtfkcmflhiccmkaaGreatDoor.VM
theorem r3:(env prK 100000).call 3 0 (m0 53 stT) endK = .ok .nrm 35 mZ:=by kernel_rfl
end Go.Proofs.YtfkcmflhiccmkaaGreatDoor.VM
