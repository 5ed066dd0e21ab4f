/-
  The law RingKnown, its card. No conditions.
-/
import Derived.Test.YtceaohiahajolaaGreatDoorY
import Derived.Test.YtceaohiahajolaaGreatDoorCards
import Derived.Test.YtceaohiahajolaaGreatDoorTie
import Derived.SevenTiedAt
set_option linter.all false
set_option linter.unusedVariables false
set_option linter.unusedSimpArgs false
namespace Go.Proofs.YtceaohiahajolaaGreatDoor
open Go
theorem wfT:Rows.ringKnownRow.wfByText (OpenSpec.ofChange Rows.ringKnownSpec)=true:=by kernel_rfl
theorem mainT:Tryz.prog.mainIs=some (true,"2cdde84d91ac4065e103f2335e24d4aee5b2e833a902bbca76ef49cf73acac3e".toList):=by kernel_rfl
theorem looksT:true=Tryz.prog.looks []:=by kernel_rfl
theorem noGo:Tryz.prog.funcs.any Func.goes=false:=by kernel_rfl
theorem goes_none {P:Program} (h:P.funcs.any Func.goes=false) (s:String):P.goesAt .entering s=false:=by
 have h1:∀ g:Nat,(P.funcs[g]?).any Func.goes=false:=fun g=>by
   cases hg:P.funcs[g]? with
   | none=>rfl
   | some fn =>
     show Func.goes fn=false
     obtain ⟨hlt,he⟩:=Array.getElem?_eq_some_iff.1 hg
     have:=Array.any_eq_false.1 h g hlt
     rw [he] at this
     simpa using this
 have h2:∀ f,P.goes f=false:=fun f=>by
   unfold Program.goes
   rw [h,Bool.and_false,Bool.or_false,List.any_eq_false]
   intro g _
   rw [h1 g];decide
 unfold Program.goesAt Program.goesFrom
 cases hf:P.funcNamed s with
 | none=>rfl
 | some f =>
   show (P.goes f || false)=false
   rw [h2 f];rfl
theorem goesT:false=Rows.ringKnownRow.goesBy Tryz.prog:=(goes_none noGo _).symm
theorem card_holds:Rows.RingKnownCardSaid :=
 Claim7.holds_tied_plain_at .later [] [.data,.data,.data] true (true,"2cdde84d91ac4065e103f2335e24d4aee5b2e833a902bbca76ef49cf73acac3e") true
   said (fun _ h=>by cases h) wfT (fun _ h=>by cases h) ringKnown_row_tie rfl ⟨rfl,rfl⟩ mainT rfl
   (fun f fn hf hfn=>by
     obtain rfl:f=3:=Option.some.inj (fnm.symm.trans hf) |>.symm
     obtain rfl:fn=Tryz.f3:=(Option.some.inj (Tryz.func3.symm.trans hfn)).symm
     exact ⟨looksT,fun j t ht=>by
       rw [Tryz.params3] at ht
       rcases j with _ | j <;> simp at ht⟩)
   goesT
end Go.Proofs.YtceaohiahajolaaGreatDoor
