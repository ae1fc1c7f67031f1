/- LoadShows: what the law's function returns, at the arguments of a row. -/
import Derived.Test.YtcjblapcdbjoiaaGreatDoorEvO
import Derived.Test.YtcjblapcdbjoiaaGreatDoorEvM
import Derived.Test.YtcjblapcdbjoiaaGreatDoorEvF
import Derived.Test.YtcjblapcdbjoiaaGreatDoorCards
import Derived.JoinedCond
import Derived.KernelRfl
set_option linter.unnecessarySimpa false
set_option linter.unusedVariables false
set_option linter.unusedSimpArgs false
set_option linter.unusedSectionVars false
namespace Go.Ev
open Go.Proofs
theorem LoadShows_spec (sig : List Dc) (t : Tm) (hl : sig.length ≤ maxLen) (hs : ∀ d ∈ sig,d.ok) (ht : t.ok) : runV TT HH [] n_law11_LoadShows [.sl false (encL sig),t.enc] [] = some (.ret (.b true),[]) := by
 rw [eq_law11_LoadShows]
 have h1 := RR_of (load_Show_spec sig hl hs t ht) (by simp) (by simp)
 have h2 := RR_of (ref05_Formed_spec sig hl hs) (by simp) (by simp)
 have h3 := RR_of (ref03_Proper_spec t ht) (by simp) (by simp)
 have h5 := RR_of awake_law11_awake (by simp) (by simp)
 cases hok : sigOK sig
 ·rw [hok] at h2
  simp [hok] at h1
  simp [ir_law11_LoadShows,h1,h2,h5,tm_fold']
 ·rw [hok] at h2
  cases hp : t.proper
  ·rw [hp] at h3
   simp [hok,hp] at h1
   simp [ir_law11_LoadShows,h1,h2,h3,h5,tm_fold']
  ·rw [hp] at h3
   simp [hok,hp] at h1
   have h4 := RR_of (ref11_Show_spec sig hl hs hok t ht hp) (by simp) (by simp)
   simp [ir_law11_LoadShows,h1,h2,h3,h4,h5,tm_fold']
theorem two_st {P : Program} {n : Nat} {a b : TypeId} {td : TypeId} {fs : Array Field} (ua : P.underlying a = some (.slice td)) (ud : ∀ n,Holds P td Dc.ok n) (ub : P.underlying b = some (.struct fs)) (ht : ∀ n,Holds P b Tm.ok n) :
  ∀ {pvs : List PV},HasTysV P n [a,b] pvs → ∃ (l : List Dc) (t : Tm),pvs = [.sl false (encL l),t.enc] ∧ l.length ≤ maxLen ∧ (∀ d ∈ l,d.ok) ∧ t.ok
 | [p,q],⟨⟨c1,h1,e1⟩,⟨c2,h2,e2⟩,_⟩ => by
  rw [ua] at e1
  rw [ub] at e2
  simp only at e1 e2
  obtain ⟨l,rfl,hl,hok⟩ := dec_slice ua n (fun m _ => ud m) h1
  obtain ⟨t,rfl,ht⟩ := ht n _ h2
  refine ⟨l,t,?_,hl,hok,ht⟩
  rw [e2]
  simp only [List.cons.injEq,and_true] at e1
  rw [← e1]; rfl
 | [],h => h.elim
 | [_],h => h.2.elim
 | _ :: _ :: _ :: _,h => h.2.2.elim
theorem LoadShows_run (n : Nat) (pvs : List PV) (h : HasTysV Tryz.prog n [22,25] pvs) : runV TT HH [] 3 pvs [] = some (.ret (.b true),[]) := by
 have ht : ∀ n,Holds Tryz.prog 25 Tm.ok n := dec_tm (ti := 3) (ts := 23) Tryz.underlying3 Tryz.underlying23 Tryz.underlying25 rfl rfl rfl rfl
 have hd : ∀ n,Holds Tryz.prog 38 Dc.ok n := dec_dc (ti := 3) (tn := 9) (tt := 25) Tryz.underlying3 Tryz.underlying9 ht Tryz.underlying38 rfl rfl rfl
 obtain ⟨l,t,rfl,hl,hok,ht⟩ := two_st (td := 38) Tryz.underlying22 hd Tryz.underlying25 ht h
 exact LoadShows_spec l t hl hok ht
end Go.Ev

/- Closed facts of the row of LoadShows, each by the kernel. -/
namespace Go.Proofs.YtcjblapcdbjoiaaGreatDoor.lawLoadShows
open Go
theorem q0 : (Rows.loadShowsRow.wf (OpenSpec.ofChange (OpenSpec.ofChange Rows.loadShowsSpec).bare)) = true := by kernel_rfl
theorem q1 : (laidOutB Tryz.prog) = true := by kernel_rfl
theorem q2 : (mapsRowed Tryz.prog) = true := by kernel_rfl
theorem q3 : (Tryz.f3.params.all (Tryz.prog.readableRec ·)) = true := by kernel_rfl
theorem q4 : (namedTie Tryz.prog Rows.loadShowsRow.named (OpenSpec.ofChange Rows.loadShowsSpec).bare.vars) = true := by kernel_rfl
theorem q5 : ((Rows.loadShowsRow.stops == [])) = true := by kernel_rfl
theorem q6 : ((Tryz.prog.stops == [])) = true := by kernel_rfl
theorem q7 : ((Rows.loadShowsRow.knobs == [])) = true := by kernel_rfl
theorem q8 : ((Tryz.prog.stopKnobs == [])) = true := by kernel_rfl
theorem q9 : ((Rows.loadShowsRow.inPlace == Tryz.prog.inPlace 3)) = true := by kernel_rfl
theorem q10 : ((Rows.loadShowsRow.unfollowed == Tryz.prog.unfollowed 3)) = true := by kernel_rfl
theorem q11 : ((Rows.loadShowsRow.recurses == Tryz.prog.recurses 3)) = true := by kernel_rfl
theorem q12 : ((Rows.loadShowsRow.named == Tryz.prog.varsNamed 3)) = true := by kernel_rfl
theorem q13 : ((Rows.loadShowsRow.maps == (Tryz.f3.params.toList ++ (OpenSpec.ofChange Rows.loadShowsSpec).bare.plain.varTypes Tryz.prog).any (Tryz.prog.mapsRec ·))) = true := by kernel_rfl
theorem q14 : ((Rows.loadShowsRow.ifaces == (Tryz.f3.params.toList ++ (OpenSpec.ofChange Rows.loadShowsSpec).bare.plain.varTypes Tryz.prog).any (Tryz.prog.ifacesRec ·))) = true := by kernel_rfl
theorem q15 : ((Rows.loadShowsRow.mapsOut == Tryz.prog.mapsAmong Tryz.f3.resultTypes.toList)) = true := by kernel_rfl
theorem q16 : ((Rows.loadShowsRow.loops == (Tryz.f3.params.toList ++ (OpenSpec.ofChange Rows.loadShowsSpec).bare.plain.varTypes Tryz.prog).any (Tryz.prog.loopsFrom ·))) = true := by kernel_rfl
theorem q17 : ((Rows.loadShowsRow.wideKeys == (Tryz.f3.params.toList ++ (OpenSpec.ofChange Rows.loadShowsSpec).bare.plain.varTypes Tryz.prog ++ Tryz.f3.resultTypes.toList).any (Tryz.prog.wideKeysFrom ·))) = true := by kernel_rfl
theorem q18 : ((OpenSpec.ofChange Rows.loadShowsSpec).bare.vars.all (Tryz.prog.varReadable ·)) = true := by kernel_rfl
theorem q19 : (Tryz.f3.resultTypes.all (fun t => Tryz.prog.readableRec t && decide (t < Tryz.prog.types.size))) = true := by kernel_rfl
theorem q20 : ((Rows.loadShowsRow.ifacesOut == Tryz.f3.resultTypes.toList.any (Tryz.prog.ifacesRec ·))) = true := by kernel_rfl
theorem q21 : ((Rows.loadShowsRow.loopsOut == Tryz.f3.resultTypes.toList.any (Tryz.prog.loopsFrom ·))) = true := by kernel_rfl
theorem q22 : ((Rows.loadShowsRow.plainKeys == Tryz.prog.plainKeys)) = true := by kernel_rfl
theorem q23 : (Rows.loadShowsRow.shortTexts.isNone) = true := by kernel_rfl
theorem q24 : (Tryz.prog.stopsHeard) = true := by kernel_rfl
theorem q25 : (Tryz.prog.mayEnter) = true := by kernel_rfl
theorem q26 : ((Rows.loadShowsRow.lifted == Tryz.prog.liftsFinal)) = true := by kernel_rfl
theorem q27 : ((Tryz.prog.make == some Rows.loadShowsRow.make)) = true := by kernel_rfl
theorem q29 : ((Rows.loadShowsRow.pinned == Rows.loadShowsRow.pinnedBy)) = true := by kernel_rfl
theorem q30 : ((Rows.loadShowsRow.veiled == (Tryz.f3.params.toList ++ (OpenSpec.ofChange Rows.loadShowsSpec).bare.plain.varTypes Tryz.prog ++ Tryz.f3.resultTypes.toList).any (Tryz.prog.veiledRec ·))) = true := by kernel_rfl
theorem q31 : (Rows.loadShowsRow.veiledFits Tryz.prog Tryz.f3.params.toList (Tryz.f3.params.toList ++ (OpenSpec.ofChange Rows.loadShowsSpec).bare.plain.varTypes Tryz.prog ++ Tryz.f3.resultTypes.toList)) = true := by kernel_rfl
theorem closed : joinedFacts Tryz.prog 3 Tryz.f3 (OpenSpec.ofChange Rows.loadShowsSpec).bare Rows.loadShowsRow = true := by
 simp only [joinedFacts,Bool.and_eq_true]
 refine ⟨⟨⟨⟨⟨⟨⟨⟨⟨⟨⟨⟨⟨⟨⟨⟨⟨⟨⟨⟨⟨⟨⟨⟨⟨⟨⟨⟨⟨⟨⟨q0,q1⟩,q2⟩,q3⟩,q4⟩,q5⟩,q6⟩,q7⟩,q8⟩,q9⟩,q10⟩,q11⟩,q12⟩,q13⟩,q14⟩,q15⟩,q16⟩,q17⟩,q18⟩,q19⟩,q20⟩,q21⟩,q22⟩,q23⟩,q24⟩,q25⟩,q26⟩,q27⟩,?_⟩,q29⟩,q30⟩,q31⟩
 kernel_rfl
theorem named : Tryz.prog.funcNamed "truss/trusslaw11.LoadShows" = some 3 := by kernel_rfl
theorem inst : Tryz.f3.isInstance Tryz.prog Rows.loadShowsRow.origin Rows.loadShowsRow.targs := of_decide_eq_true (by kernel_rfl)
theorem wrap : Tryz.f3.isWrapper Tryz.prog Rows.loadShowsRow.wrapper Rows.loadShowsRow.mainSum := by unfold Func.isWrapper; first | (rw [if_pos (by decide +kernel)]; kernel_rfl) | (rw [if_neg (by decide +kernel)]; exact ⟨rfl,rfl⟩)
theorem resT : Tryz.f3.resultTypes = #[4] := by kernel_rfl
theorem read22 : Tryz.prog.readableRec 22 = true := by kernel_rfl
theorem row22 : 22 < Tryz.prog.types.size := of_decide_eq_true (by kernel_rfl)
theorem stand22 : Tryz.prog.wantsStandIn 22 = false := by kernel_rfl
theorem read25 : Tryz.prog.readableRec 25 = true := by kernel_rfl
theorem row25 : 25 < Tryz.prog.types.size := of_decide_eq_true (by kernel_rfl)
theorem stand25 : Tryz.prog.wantsStandIn 25 = false := by kernel_rfl
theorem tys : Ev.tysOK Tryz.prog [22,25,38,23,3,9] = true := by kernel_rfl
theorem own : ownKnob Tryz.prog.godebug = none := by kernel_rfl
theorem noInit : Tryz.checked.prog.inits.idxOf? 3 = none := by kernel_rfl
theorem looks : Tryz.prog.looks [] = true := by kernel_rfl
end Go.Proofs.YtcjblapcdbjoiaaGreatDoor.lawLoadShows
