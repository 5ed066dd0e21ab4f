/-
  Closed facts of the row. No conditions.
-/
import Derived.Test.YtppejimdibhgcaaGreatDoorRows
import Derived.JoinedOf
set_option linter.all false
set_option linter.unusedVariables false
set_option linter.unusedSimpArgs false
namespace Go.Proofs.YtppejimdibhgcaaGreatDoor
open Go
theorem jf11:((Rows.chopKnownRow.recurses == Tryz.prog.recurses 3))=true:=by kernel_rfl
theorem jf12:((Rows.chopKnownRow.named == Tryz.prog.varsNamed 3))=true:=by kernel_rfl
theorem jf24:(Tryz.prog.stopsHeard)=true:=by kernel_rfl
theorem jf25:(Tryz.prog.mayEnter)=true:=by kernel_rfl
end Go.Proofs.YtppejimdibhgcaaGreatDoor
