/- Closed facts of the row of SplitGoals, each by the kernel. -/
import Derived.Test.YtfbichemhllhbaaGreatRows
import Derived.JoinedCond
import Derived.KernelRfl
import Derived.Test.YtfbichemhllhbaaGreatEvD
set_option linter.unnecessarySimpa false
set_option linter.unusedVariables false
set_option linter.unusedSimpArgs false
set_option linter.unusedSectionVars false
namespace Go.Proofs.YtfbichemhllhbaaGreat.lawSplitGoals
open Go
theorem q0:(Rows.splitGoalsRow.wf (OpenSpec.ofChange (OpenSpec.ofChange Rows.splitGoalsSpec).bare))=true:=by kernel_rfl
theorem q1:(laidOutB Tryz.prog)=true:=by kernel_rfl
theorem q2:(mapsRowed Tryz.prog)=true:=by kernel_rfl
theorem q3:(Tryz.f3.params.all (Tryz.prog.readableRec ·))=true:=by kernel_rfl
theorem q4:(namedTie Tryz.prog Rows.splitGoalsRow.named (OpenSpec.ofChange Rows.splitGoalsSpec).bare.vars)=true:=by kernel_rfl
theorem q5:((Rows.splitGoalsRow.stops == []))=true:=by kernel_rfl
theorem q6:((Tryz.prog.stops == []))=true:=by kernel_rfl
theorem q7:((Rows.splitGoalsRow.knobs == []))=true:=by kernel_rfl
theorem q8:((Tryz.prog.stopKnobs == []))=true:=by kernel_rfl
theorem q9:((Rows.splitGoalsRow.inPlace == Tryz.prog.inPlace 3))=true:=by kernel_rfl
theorem q10:((Rows.splitGoalsRow.unfollowed == Tryz.prog.unfollowed 3))=true:=by kernel_rfl
theorem q11:((Rows.splitGoalsRow.recurses == Tryz.prog.recurses 3))=true:=by kernel_rfl
theorem q12:((Rows.splitGoalsRow.named == Tryz.prog.varsNamed 3))=true:=by kernel_rfl
theorem q13:((Rows.splitGoalsRow.maps == (Tryz.f3.params.toList++(OpenSpec.ofChange Rows.splitGoalsSpec).bare.plain.varTypes Tryz.prog).any (Tryz.prog.mapsRec ·)))=true:=by kernel_rfl
theorem q14:((Rows.splitGoalsRow.ifaces == (Tryz.f3.params.toList++(OpenSpec.ofChange Rows.splitGoalsSpec).bare.plain.varTypes Tryz.prog).any (Tryz.prog.ifacesRec ·)))=true:=by kernel_rfl
theorem q15:((Rows.splitGoalsRow.mapsOut == Tryz.prog.mapsAmong Tryz.f3.resultTypes.toList))=true:=by kernel_rfl
theorem q16:((Rows.splitGoalsRow.loops == (Tryz.f3.params.toList++(OpenSpec.ofChange Rows.splitGoalsSpec).bare.plain.varTypes Tryz.prog).any (Tryz.prog.loopsFrom ·)))=true:=by kernel_rfl
theorem q17:((Rows.splitGoalsRow.wideKeys == (Tryz.f3.params.toList++(OpenSpec.ofChange Rows.splitGoalsSpec).bare.plain.varTypes Tryz.prog++Tryz.f3.resultTypes.toList).any (Tryz.prog.wideKeysFrom ·)))=true:=by kernel_rfl
theorem q18:((OpenSpec.ofChange Rows.splitGoalsSpec).bare.vars.all (Tryz.prog.varReadable ·))=true:=by kernel_rfl
theorem q19:(Tryz.f3.resultTypes.all (fun t=>Tryz.prog.readableRec t && decide (t<Tryz.prog.types.size)))=true:=by kernel_rfl
theorem q20:((Rows.splitGoalsRow.ifacesOut == Tryz.f3.resultTypes.toList.any (Tryz.prog.ifacesRec ·)))=true:=by kernel_rfl
theorem q21:((Rows.splitGoalsRow.loopsOut == Tryz.f3.resultTypes.toList.any (Tryz.prog.loopsFrom ·)))=true:=by kernel_rfl
theorem q22:((Rows.splitGoalsRow.plainKeys == Tryz.prog.plainKeys))=true:=by kernel_rfl
theorem q23:(Rows.splitGoalsRow.shortTexts.isNone)=true:=by kernel_rfl
theorem q24:(Tryz.prog.stopsHeard)=true:=by kernel_rfl
theorem q25:(Tryz.prog.mayEnter)=true:=by kernel_rfl
theorem q26:((Rows.splitGoalsRow.lifted == Tryz.prog.liftsFinal))=true:=by kernel_rfl
theorem q27:((Tryz.prog.make == some Rows.splitGoalsRow.make))=true:=by kernel_rfl
theorem q29:((Rows.splitGoalsRow.pinned == Rows.splitGoalsRow.pinnedBy))=true:=by kernel_rfl
theorem q30:((Rows.splitGoalsRow.veiled == (Tryz.f3.params.toList++(OpenSpec.ofChange Rows.splitGoalsSpec).bare.plain.varTypes Tryz.prog++Tryz.f3.resultTypes.toList).any (Tryz.prog.veiledRec ·)))=true:=by kernel_rfl
theorem q31:(Rows.splitGoalsRow.veiledFits Tryz.prog Tryz.f3.params.toList (Tryz.f3.params.toList++(OpenSpec.ofChange Rows.splitGoalsSpec).bare.plain.varTypes Tryz.prog++Tryz.f3.resultTypes.toList))=true:=by kernel_rfl
theorem closed:joinedFacts Tryz.prog 3 Tryz.f3 (OpenSpec.ofChange Rows.splitGoalsSpec).bare Rows.splitGoalsRow=true:=by
 simp only [joinedFacts,Bool.and_eq_true]
 refine ⟨⟨⟨⟨⟨⟨⟨⟨⟨⟨⟨⟨⟨⟨⟨⟨⟨⟨⟨⟨⟨⟨⟨⟨⟨⟨⟨⟨⟨⟨⟨q0,q1⟩,q2⟩,q3⟩,q4⟩,q5⟩,q6⟩,q7⟩,q8⟩,q9⟩,q10⟩,q11⟩,q12⟩,q13⟩,q14⟩,q15⟩,q16⟩,q17⟩,q18⟩,q19⟩,q20⟩,q21⟩,q22⟩,q23⟩,q24⟩,q25⟩,q26⟩,q27⟩,?_⟩,q29⟩,q30⟩,q31⟩
 kernel_rfl
theorem named : Tryz.prog.funcNamed "truss/trusslaw17.SplitGoals" = some 3 := by kernel_rfl
theorem inst:Tryz.f3.isInstance Tryz.prog Rows.splitGoalsRow.origin Rows.splitGoalsRow.targs:=of_decide_eq_true (by kernel_rfl)
theorem wrap:Tryz.f3.isWrapper Tryz.prog Rows.splitGoalsRow.wrapper Rows.splitGoalsRow.mainSum:=by unfold Func.isWrapper; first|(rw [if_pos (by decide +kernel)]; kernel_rfl)|(rw [if_neg (by decide +kernel)]; exact ⟨rfl,rfl⟩)
theorem resT:Tryz.f3.resultTypes=#[4]:=by kernel_rfl
theorem read3:Tryz.prog.readableRec 3=true:=by kernel_rfl
theorem row3:3<Tryz.prog.types.size:=of_decide_eq_true (by kernel_rfl)
theorem read22:Tryz.prog.readableRec 22=true:=by kernel_rfl
theorem row22:22<Tryz.prog.types.size:=of_decide_eq_true (by kernel_rfl)
theorem tys:Ev.Jm Tryz.prog [22,3,43,39,24,9]=true:=by kernel_rfl
theorem own:ownKnob Tryz.prog.godebug=none:=by kernel_rfl
theorem noInit:Tryz.checked.prog.inits.idxOf? 3=none:=by kernel_rfl
end Go.Proofs.YtfbichemhllhbaaGreat.lawSplitGoals
