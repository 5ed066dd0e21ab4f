/-
  The law RingKnown, its row. No conditions.
-/
import Derived.Test.YtceaohiahajolaaGreatDoorX
import Derived.Test.YtceaohiahajolaaGreatDoorF0
import Derived.Test.YtceaohiahajolaaGreatDoorF1
import Derived.ProofKit
import Derived.LaidMore
import Derived.OpenShut
import Derived.Stop.Joined
set_option linter.all false
set_option linter.unusedVariables false
set_option linter.unusedSimpArgs false
namespace Go.Proofs.YtceaohiahajolaaGreatDoor
open Go Go.ChangeShapes Go.WideShapes Go.ChangeAt Go.RowKit
theorem jf0:(Rows.ringKnownRow.wf (OpenSpec.ofChange Rows.ringKnownSpec))=true:=by kernel_rfl
theorem jf3:(Tryz.f3.params.all (Tryz.prog.readableRec ·))=true:=by kernel_rfl
theorem jf4:(namedTie Tryz.prog Rows.ringKnownRow.named Rows.ringKnownSpec.vars)=true:=by kernel_rfl
theorem jf5:((Rows.ringKnownRow.stops == []))=true:=by kernel_rfl
theorem jf6:((Tryz.prog.stops == []))=true:=by kernel_rfl
theorem jf7:((Rows.ringKnownRow.knobs == []))=true:=by kernel_rfl
theorem jf8:((Tryz.prog.stopKnobs == []))=true:=by kernel_rfl
theorem jf13:((Rows.ringKnownRow.maps == (Tryz.f3.params.toList++Rows.ringKnownSpec.plain.varTypes Tryz.prog).any (Tryz.prog.mapsRec ·)))=true:=by kernel_rfl
theorem jf14:((Rows.ringKnownRow.ifaces == (Tryz.f3.params.toList++Rows.ringKnownSpec.plain.varTypes Tryz.prog).any (Tryz.prog.ifacesRec ·)))=true:=by kernel_rfl
theorem jf15:((Rows.ringKnownRow.mapsOut == Tryz.prog.mapsAmong Tryz.f3.resultTypes.toList))=true:=by kernel_rfl
theorem jf16:((Rows.ringKnownRow.loops == (Tryz.f3.params.toList++Rows.ringKnownSpec.plain.varTypes Tryz.prog).any (Tryz.prog.loopsFrom ·)))=true:=by kernel_rfl
theorem jf17:((Rows.ringKnownRow.wideKeys == (Tryz.f3.params.toList++Rows.ringKnownSpec.plain.varTypes Tryz.prog++Tryz.f3.resultTypes.toList).any (Tryz.prog.wideKeysFrom ·)))=true:=by kernel_rfl
theorem jf18:(Rows.ringKnownSpec.vars.all (Tryz.prog.varReadable ·))=true:=by kernel_rfl
theorem jf19:(Tryz.f3.resultTypes.all (fun t=>Tryz.prog.readableRec t && decide (t<Tryz.prog.types.size)))=true:=by kernel_rfl
theorem jf20:((Rows.ringKnownRow.ifacesOut == Tryz.f3.resultTypes.toList.any (Tryz.prog.ifacesRec ·)))=true:=by kernel_rfl
theorem jf21:((Rows.ringKnownRow.loopsOut == Tryz.f3.resultTypes.toList.any (Tryz.prog.loopsFrom ·)))=true:=by kernel_rfl
theorem jf22:((Rows.ringKnownRow.plainKeys == Tryz.prog.plainKeys))=true:=by kernel_rfl
theorem jf23:(Rows.ringKnownRow.shortTexts.isNone)=true:=by kernel_rfl
theorem jf26:((Rows.ringKnownRow.lifted == Tryz.prog.liftsFinal))=true:=by kernel_rfl
theorem jf27:((Tryz.prog.make == some Rows.ringKnownRow.make))=true:=by kernel_rfl
theorem jf28:((Rows.ringKnownRow.kinds == (if Rows.ringKnownRow.domain.isEmpty then [] else Tryz.f3.params.toList.map fun t=>match Tryz.prog.underlying t with | some (.int k)=>some k | _=>none)))=true:=by kernel_rfl
theorem jf29:((Rows.ringKnownRow.pinned == Rows.ringKnownRow.pinnedBy))=true:=by kernel_rfl
theorem jf30:((Rows.ringKnownRow.veiled == (Tryz.f3.params.toList++Rows.ringKnownSpec.plain.varTypes Tryz.prog++Tryz.f3.resultTypes.toList).any (Tryz.prog.veiledRec ·)))=true:=by kernel_rfl
theorem jf31:(Rows.ringKnownRow.veiledFits Tryz.prog Tryz.f3.params.toList (Tryz.f3.params.toList++Rows.ringKnownSpec.plain.varTypes Tryz.prog++Tryz.f3.resultTypes.toList))=true:=by kernel_rfl
theorem and2 {a b:Bool} (h1:a=true) (h2:b=true):(a && b)=true:=by rw [h1,h2];rfl
set_option maxRecDepth 100000 in
theorem closed_facts:joinedFacts Tryz.prog 3 Tryz.f3 Rows.ringKnownSpec Rows.ringKnownRow=true:=and2 (and2 (and2 (and2 (and2 (and2 (and2 (and2 (and2 (and2 (and2 (and2 (and2 (and2 (and2 (and2 (and2 (and2 (and2 (and2 (and2 (and2 (and2 (and2 (and2 (and2 (and2 (and2 (and2 (and2 (and2 jf0 jf1) jf2) jf3) jf4) jf5) jf6) jf7) jf8) jf9) jf10) jf11) jf12) jf13) jf14) jf15) jf16) jf17) jf18) jf19) jf20) jf21) jf22) jf23) jf24) jf25) jf26) jf27) jf28) jf29) jf30) jf31
theorem own:ownKnob Tryz.prog.godebug=none:=by kernel_rfl
theorem noInit:Tryz.prog.inits.idxOf? 3=none:=by kernel_rfl
theorem dm1 (os:Os) (args:Array Value):laidMetH Tryz.prog Rows.ringKnownRow.laid ((World.doorLaid Tryz.prog 400 os).forCall (fun _ _=>0) ⟨#[],args,[]⟩).memory :=
 laidMetH_of_parts3 (fuel:=100) (laidMet_of_run' 100 (by as_aux_lemma=>kernel_rfl) (by as_aux_lemma=>kernel_rfl)) (by as_aux_lemma=>kernel_rfl) (by as_aux_lemma=>kernel_rfl)
theorem kept {w w':World} (q:VM.Quiet w w') (may:MemPlace→Prop):w.keptBut w' may:=by
 refine ⟨q.os,q.output,fun i hi=>?_⟩
 rw [q.elder i hi]
 split <;> simp_all
set_option maxRecDepth 100000 in
theorem lifted (os : Os) (started : os.Started) (H : Type) (enc : TypeId × Value → H) :
    ReturnsInHanded {} Tryz.checked os 3 .any (fun w args=>(Rows.ringKnownSpec.pre enc Tryz.prog Tryz.f3 [] false w args∧laidMetH Tryz.prog Rows.ringKnownRow.laid w)∧sizedMet enc Tryz.prog Tryz.f3 (OpenSpec.ofChange Rows.ringKnownSpec) false w args)
      (Rows.ringKnownSpec.post enc Tryz.prog Tryz.f3 false true false false):=by
  refine returnsInHanded_of_change_and (C:=Tryz.checked) (X:=fun w _=>laidMetH Tryz.prog Rows.ringKnownRow.laid w) (fun _ _ _ hh h=>h.of_heap hh) own started noInit Tryz.func3
    (ChangeSpec.witness_shaped (enc:=enc) (C:=Tryz.checked) (os:=os) (X:=fun w _=>laidMetH Tryz.prog Rows.ringKnownRow.laid w) false (World.doorLaid Tryz.prog 400 os) #[] 100 rfl (World.shaped_of_RefB (by as_aux_lemma=>kernel_rfl) (by as_aux_lemma=>kernel_rfl)) (by as_aux_lemma=>kernel_rfl) (by as_aux_lemma=>kernel_rfl) (by as_aux_lemma=>kernel_rfl) (dm1 os _)) ?_
  intro W base args ds gs before hval0 hW _ _ hL _
  have hW':=hW
  obtain ⟨p,q,hA0,hV0,rfl,hfz,hnd⟩:=hW
  have hA:DataW.TrodAll enc Tryz.prog W 0 (fun _=>true) true Tryz.f3.params.toList args.toList ds p:=hA0
  have hV:DataW.TrodVars enc Tryz.prog W (fun _=>true) [] gs q:=hV0
  obtain ⟨rfl,rfl⟩:=trodVars_none hV
  rw [Tryz.params3] at hA
  obtain ⟨rfl,rfl,rfl⟩:args=#[]∧ds=[]∧p=[]:=by
    have hA:DataW.TrodAll enc Tryz.prog W 0 (fun _=>true) true [] args.toList ds p:=hA
    obtain ⟨l⟩:=args
    cases l with
    | nil =>
      cases ds with
      | nil=>exact ⟨rfl,rfl,hA⟩
      | cons d ds=>exact hA.elim
    | cons v l=>cases ds <;> exact hA.elim
  refine (VM.known_c W).mono fun e W' ⟨he,hq⟩=>?_
  subst he
  refine ⟨_,rfl,_,_,_,[],[],[],hW',?_,?_,?_,kept hq _,fun h=>by cases h⟩
  · exact trodAll_mk1 (shut_bool Tryz.underlying4 true)
  · rw [Tryz.params3];exact (rfl:([]:List MemPlace)=[])
  · rfl
theorem fnm:Tryz.prog.funcNamed Rows.ringKnownRow.func=some 3:=by kernel_rfl
theorem insts:Tryz.f3.isInstance Tryz.prog Rows.ringKnownRow.origin Rows.ringKnownRow.targs:=of_decide_eq_true (by kernel_rfl)
theorem wraps:Tryz.f3.isWrapper Tryz.prog Rows.ringKnownRow.wrapper Rows.ringKnownRow.mainSum:=by unfold Func.isWrapper;first | (rw [if_pos (by decide +kernel)];kernel_rfl) | (rw [if_neg (by decide +kernel)];exact ⟨rfl,rfl⟩)
theorem said:Rows.RingKnownSaid :=
 OpenClaim.holds_of_wide 3 Tryz.f3 rfl rfl rfl rfl rfl rfl rfl ⟨rfl,rfl,rfl,rfl,rfl⟩ rfl rfl rfl rfl rfl fnm Tryz.func3 closed_facts insts wraps
   (fun os started H enc _=>lifted os started H enc)
end Go.Proofs.YtceaohiahajolaaGreatDoor
