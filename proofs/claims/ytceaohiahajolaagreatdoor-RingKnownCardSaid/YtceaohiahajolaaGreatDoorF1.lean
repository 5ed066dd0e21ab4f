/-
  Closed facts of the row. No conditions.
-/
import Derived.Test.YtceaohiahajolaaGreatDoorRows
import Derived.JoinedOf
set_option linter.all false
set_option linter.unusedVariables false
set_option linter.unusedSimpArgs false
namespace Go.Proofs.YtceaohiahajolaaGreatDoor
open Go
theorem jf11:((Rows.ringKnownRow.recurses == Tryz.prog.recurses 3))=true:=by kernel_rfl
theorem jf12:((Rows.ringKnownRow.named == Tryz.prog.varsNamed 3))=true:=by kernel_rfl
theorem jf24:(Tryz.prog.stopsHeard)=true:=by kernel_rfl
theorem jf25:(Tryz.prog.mayEnter)=true:=by kernel_rfl
end Go.Proofs.YtceaohiahajolaaGreatDoor
