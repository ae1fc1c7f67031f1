/- Closed facts of the row of LoadSame, each by the kernel. -/
import Derived.Test.YtpbcpnbcjnhifaaGreatDoorCards
import Derived.JoinedCond
import Derived.KernelRfl
import Derived.Test.YtpbcpnbcjnhifaaGreatDoorEvF
set_option linter.unnecessarySimpa false
set_option linter.unusedVariables false
set_option linter.unusedSimpArgs false
set_option linter.unusedSectionVars false
namespace Go.Proofs.YtpbcpnbcjnhifaaGreatDoor.lawLoadSame
open Go
theorem q0 : (Rows.loadSameRow.wf (OpenSpec.ofChange (OpenSpec.ofChange Rows.loadSameSpec).bare)) = true := by kernel_rfl
theorem q1 : (laidOutB Tryz.prog) = true := by kernel_rfl
theorem q2 : (mapsRowed Tryz.prog) = true := by kernel_rfl
theorem q3 : (Tryz.f5.params.all (Tryz.prog.readableRec ·)) = true := by kernel_rfl
theorem q4 : (namedTie Tryz.prog Rows.loadSameRow.named (OpenSpec.ofChange Rows.loadSameSpec).bare.vars) = true := by kernel_rfl
theorem q5 : ((Rows.loadSameRow.stops == [])) = true := by kernel_rfl
theorem q6 : ((Tryz.prog.stops == [])) = true := by kernel_rfl
theorem q7 : ((Rows.loadSameRow.knobs == [])) = true := by kernel_rfl
theorem q8 : ((Tryz.prog.stopKnobs == [])) = true := by kernel_rfl
theorem q9 : ((Rows.loadSameRow.inPlace == Tryz.prog.inPlace 5)) = true := by kernel_rfl
theorem q10 : ((Rows.loadSameRow.unfollowed == Tryz.prog.unfollowed 5)) = true := by kernel_rfl
theorem q11 : ((Rows.loadSameRow.recurses == Tryz.prog.recurses 5)) = true := by kernel_rfl
theorem q12 : ((Rows.loadSameRow.named == Tryz.prog.varsNamed 5)) = true := by kernel_rfl
theorem q13 : ((Rows.loadSameRow.maps == (Tryz.f5.params.toList ++ (OpenSpec.ofChange Rows.loadSameSpec).bare.plain.varTypes Tryz.prog).any (Tryz.prog.mapsRec ·))) = true := by kernel_rfl
theorem q14 : ((Rows.loadSameRow.ifaces == (Tryz.f5.params.toList ++ (OpenSpec.ofChange Rows.loadSameSpec).bare.plain.varTypes Tryz.prog).any (Tryz.prog.ifacesRec ·))) = true := by kernel_rfl
theorem q15 : ((Rows.loadSameRow.mapsOut == Tryz.prog.mapsAmong Tryz.f5.resultTypes.toList)) = true := by kernel_rfl
theorem q16 : ((Rows.loadSameRow.loops == (Tryz.f5.params.toList ++ (OpenSpec.ofChange Rows.loadSameSpec).bare.plain.varTypes Tryz.prog).any (Tryz.prog.loopsFrom ·))) = true := by kernel_rfl
theorem q17 : ((Rows.loadSameRow.wideKeys == (Tryz.f5.params.toList ++ (OpenSpec.ofChange Rows.loadSameSpec).bare.plain.varTypes Tryz.prog ++ Tryz.f5.resultTypes.toList).any (Tryz.prog.wideKeysFrom ·))) = true := by kernel_rfl
theorem q18 : ((OpenSpec.ofChange Rows.loadSameSpec).bare.vars.all (Tryz.prog.varReadable ·)) = true := by kernel_rfl
theorem q19 : (Tryz.f5.resultTypes.all (fun t => Tryz.prog.readableRec t && decide (t < Tryz.prog.types.size))) = true := by kernel_rfl
theorem q20 : ((Rows.loadSameRow.ifacesOut == Tryz.f5.resultTypes.toList.any (Tryz.prog.ifacesRec ·))) = true := by kernel_rfl
theorem q21 : ((Rows.loadSameRow.loopsOut == Tryz.f5.resultTypes.toList.any (Tryz.prog.loopsFrom ·))) = true := by kernel_rfl
theorem q22 : ((Rows.loadSameRow.plainKeys == Tryz.prog.plainKeys)) = true := by kernel_rfl
theorem q23 : (Rows.loadSameRow.shortTexts.isNone) = true := by kernel_rfl
theorem q24 : (Tryz.prog.stopsHeard) = true := by kernel_rfl
theorem q25 : (Tryz.prog.mayEnter) = true := by kernel_rfl
theorem q26 : ((Rows.loadSameRow.lifted == Tryz.prog.liftsFinal)) = true := by kernel_rfl
theorem q27 : ((Tryz.prog.make == some Rows.loadSameRow.make)) = true := by kernel_rfl
theorem q28 : ((Rows.loadSameRow.kinds == (if Rows.loadSameRow.domain.isEmpty then [] else Tryz.f5.params.toList.map fun t => match Tryz.prog.underlying t with | some (.int k) => some k | _ => none))) = true := by kernel_rfl
theorem q29 : ((Rows.loadSameRow.pinned == Rows.loadSameRow.pinnedBy)) = true := by kernel_rfl
theorem q30 : ((Rows.loadSameRow.veiled == (Tryz.f5.params.toList ++ (OpenSpec.ofChange Rows.loadSameSpec).bare.plain.varTypes Tryz.prog ++ Tryz.f5.resultTypes.toList).any (Tryz.prog.veiledRec ·))) = true := by kernel_rfl
theorem q31 : (Rows.loadSameRow.veiledFits Tryz.prog Tryz.f5.params.toList (Tryz.f5.params.toList ++ (OpenSpec.ofChange Rows.loadSameSpec).bare.plain.varTypes Tryz.prog ++ Tryz.f5.resultTypes.toList)) = true := by kernel_rfl
theorem closed : joinedFacts Tryz.prog 5 Tryz.f5 (OpenSpec.ofChange Rows.loadSameSpec).bare Rows.loadSameRow = true := by
  simp only [joinedFacts, Bool.and_eq_true]
  refine ⟨⟨⟨⟨⟨⟨⟨⟨⟨⟨⟨⟨⟨⟨⟨⟨⟨⟨⟨⟨⟨⟨⟨⟨⟨⟨⟨⟨⟨⟨⟨q0, q1⟩, q2⟩, q3⟩, q4⟩, q5⟩, q6⟩, q7⟩, q8⟩, q9⟩, q10⟩, q11⟩, q12⟩, q13⟩, q14⟩, q15⟩, q16⟩, q17⟩, q18⟩, q19⟩, q20⟩, q21⟩, q22⟩, q23⟩, q24⟩, q25⟩, q26⟩, q27⟩, ?_⟩, q29⟩, q30⟩, q31⟩
  kernel_rfl
theorem named : Tryz.prog.funcNamed "truss/trusslaw11.LoadSame" = some 5 := by kernel_rfl
theorem inst : Tryz.f5.isInstance Tryz.prog Rows.loadSameRow.origin Rows.loadSameRow.targs := of_decide_eq_true (by kernel_rfl)
theorem wrap : Tryz.f5.isWrapper Tryz.prog Rows.loadSameRow.wrapper Rows.loadSameRow.mainSum := by unfold Func.isWrapper; first | (rw [if_pos (by decide +kernel)]; kernel_rfl) | (rw [if_neg (by decide +kernel)]; exact ⟨rfl, rfl⟩)
theorem resT : Tryz.f5.resultTypes = #[4] := by kernel_rfl
theorem read53 : Tryz.prog.readableRec 53 = true := by kernel_rfl
theorem row53 : 53 < Tryz.prog.types.size := of_decide_eq_true (by kernel_rfl)
theorem stand53 : Tryz.prog.wantsStandIn 53 = false := by kernel_rfl
theorem tys : Ev.tysOK Tryz.prog [53, 22, 51, 61, 9, 46, 3, 24, 111, 109, 106, 104, 107, 115] = true := by kernel_rfl
theorem own : ownKnob Tryz.prog.godebug = none := by kernel_rfl
theorem noInit : Tryz.checked.prog.inits.idxOf? 5 = none := by kernel_rfl
theorem looks : Tryz.prog.looks [] = true := by kernel_rfl
end Go.Proofs.YtpbcpnbcjnhifaaGreatDoor.lawLoadSame

