/- LoadShows: Show returns the text of a term without variables and metavariables, or the error (trusslaw11, P11.3), for every input of the row, whatever the memory and the schedule: the law returns true and leaves its arguments as they were. No condition beyond the card's own. The call is carried by an interpreter that is proved sound for the loaded code (the texts E..): Q: the code as it reads, and the kernel's check of it; KA: the closed part, evaluated by the kernel; HB to HS: library functions by the kit's contracts; P, D: what each function computes. -/
import Derived.Test.YtcjblapcdbjoiaaGreatDoorCards
import Derived.Test.YtcjblapcdbjoiaaGreatDoorTie
import Derived.WalkKit
import Derived.ProofKit
import Derived.OpenShut
import Derived.Deep.DeepHandedRow
import Derived.Deep.DeepWitnessRowRef
import Derived.Lib.LaidTab
import Derived.Test.YtcjblapcdbjoiaaGreatDoorEvX
set_option linter.unnecessarySimpa false
set_option linter.unusedVariables false
set_option linter.unusedSimpArgs false
set_option linter.unusedSectionVars false
namespace Go.Proofs.YtcjblapcdbjoiaaGreatDoor.lawLoadShows
open Go.ChangeShapes Go.WideShapes Go.ChangeAt Go.RowKit
set_option maxRecDepth 100000 in
theorem contract (H : Type) (enc : TypeId × Value → H) (W : World) (base : Nat) (args : Array Value) (ds gs : List (DataW H)) (before : List MemPlace)
  (hval : ∀ (j : Nat) t v,Tryz.f3.params[j]? = some t → args[j]? = some v → Value.okWide Tryz.prog W .any base t v)
  (hW : DataW.Whole enc Tryz.prog Tryz.f3.params.toList Rows.loadShowsSpec.vars false W args.toList ds gs before) :
  Calls Tryz.prog 3 args W fun e W' => ∃ v,e = .returned v ∧ Rows.loadShowsSpec.post enc Tryz.prog Tryz.f3 false true false false W args v W' := by
 have hp : ∀ t ∈ Tryz.f3.params.toList,t = 22 ∨ t = 25 := by rw [Tryz.params3]; intro t ht; simpa using ht
 have hin : ∀ t ∈ Tryz.f3.params.toList,t ∈ ([22,25,38,23,3,9] : List TypeId) := fun t ht => by rcases hp t ht with rfl | rfl <;> simp
 have hre : ∀ t ∈ Tryz.f3.params.toList,Tryz.prog.readableRec t = true ∧ t < Tryz.prog.types.size := fun t ht => by
  rcases hp t ht with rfl | rfl
  ·exact ⟨read22,row22⟩
  ·exact ⟨read25,row25⟩
 have hfn : ∀ ds : List (DataW H),ds.length = Tryz.f3.params.size → Rows.loadShowsSpec.fn H ds = { results := [.lit (.bool true)],args := ds } := by
  intro ds h
  rw [Tryz.params3] at h
  match ds,h with
  | [d1,d2],_ => rfl
 have hrun : ∀ n pvs,Ev.HasTysV Tryz.prog n Tryz.f3.params.toList pvs → Ev.runV Ev.TT Ev.HH [] 3 pvs [] = some (.ret (.b true),[]) := by
  intro n pvs h
  rw [Tryz.params3] at h
  exact Ev.LoadShows_run n pvs h
 refine Ev.law_of (H := H) (enc := enc) (P := Tryz.prog) (calls := Ev.runV Ev.TT Ev.HH) (f := 3) (fn := Tryz.f3) (s := Rows.loadShowsSpec) (S := [22,25,38,23,3,9]) (tb := 4) (apart := false) (fresh := true) (handsOn := false) (W := W) (base := base) (args := args) (ds := ds) (gs := gs) (before := before)
  Ev.R_ok (by decide) q1 tys hin hre rfl resT Tryz.underlying4 hfn hrun ?_ hW
 intro j t v h1 h2
 exact hval j t v h1 h2
def lay : DataW Unit → Array Value
 | .agg l => (l.map fun | .lit (.int k n) => Value.int k n | _ => undef).toArray
 | _ => #[]
def put (c : Array Value) : Obj → Obj
 | .cells _ t frozen => .cells c t frozen
 | o => o
noncomputable def laidWorld (os : Os) : World :=
 let N := (World.settled Tryz.prog os).heap.size
 { World.holding Tryz.prog os ⟨#[.cells #[.string ⟨#[118,97,108,117,101,32,111,117,116,32,111,102,32,114,97,110,103,101]⟩] 444,.cells #[.string ⟨#[105,110,118,97,108,105,100,32,115,121,110,116,97,120]⟩] 444],#[],[]⟩ with heap := ((((((World.holding Tryz.prog os ⟨#[.cells #[.string ⟨#[118,97,108,117,101,32,111,117,116,32,111,102,32,114,97,110,103,101]⟩] 444,.cells #[.string ⟨#[105,110,118,97,108,105,100,32,115,121,110,116,97,120]⟩] 444],#[],[]⟩).heap.modify 0 (put (lay Rows.laid_internal_strconv_uint64pow10))).modify 4 (put (lay Rows.laid_math_bits_deBruijn32tab))).modify 5 (put (lay Rows.laid_math_bits_deBruijn64tab))).modify 3 (put #[.iface 442 (.pointer (some ⟨N,0,none⟩))])).modify 2 (put #[.iface 442 (.pointer (some ⟨N + 1,0,none⟩))])) }
def zero0 : Value := .slice none 0 0
def zero1 : Value := .agg #[.int .i64 0,.int .i64 0,.int .i64 0,.slice none 0 0]
theorem laid_met (os : Os) : laidMet Tryz.prog Rows.loadShowsRow.laid ((laidWorld os).forCall (fun _ _ => 0) ⟨#[],#[zero0,zero1],[]⟩).memory :=
 laidMet_of_run' 8 (by kernel_rfl) (by kernel_rfl)
theorem reads (os : Os) {H : Type} (enc : TypeId × Value → H) : ∃ places,DataW.whole enc Tryz.prog ((laidWorld os).forCall (fun _ _ => 0) ⟨#[],#[zero0,zero1],[]⟩).memory Tryz.f3.params.toList Rows.loadShowsSpec.vars false #[zero0,zero1].toList 8 = some ([.nil,.agg [.lit (.int .i64 0),.lit (.int .i64 0),.lit (.int .i64 0),.nil]],[],places) :=
 ⟨[],by kernel_rfl⟩
set_option maxRecDepth 100000 in
theorem lifted (os : Os) (started : os.Started) (H : Type) (enc : TypeId × Value → H) (F : Stop.Interp) :
  ReturnsInHanded {} Tryz.checked os 3 .any ((OpenSpec.ofChange Rows.loadShowsSpec).preRow enc Tryz.prog Tryz.f3 Rows.loadShowsRow.domain false Rows.loadShowsRow.laid) (((OpenSpec.ofChange Rows.loadShowsSpec).at F).post enc Tryz.prog Tryz.f3 false true false false) := by
 obtain ⟨places,hx⟩ := reads os enc
 refine returnsInHanded_of_row (C := Tryz.checked) (s := OpenSpec.ofChange Rows.loadShowsSpec) own started noInit Tryz.func3
  (witness_row_atRef (enc := enc) (C := Tryz.checked) false (laidWorld os) #[zero0,zero1] rfl (by kernel_rfl) (by kernel_rfl) (by kernel_rfl)
   (OpenSpec.preRow_of_cond 8 hx (by kernel_rfl) (fun k hk => by cases hk) (by kernel_rfl) (laid_met os))) ?_
 intro W base args ds gs before hval hW _ _ _ hL _ _
 exact contract H enc W base args ds gs before hval hW
theorem said : Rows.LoadShowsSaid :=
 OpenClaim.holds_of_cond 3 Tryz.f3 rfl rfl rfl rfl rfl rfl rfl ⟨rfl,rfl,rfl,rfl,rfl⟩ rfl rfl rfl rfl rfl named Tryz.func3 closed inst wrap
  (fun os started H enc _ F => by rw [OpenClaim.pre_eq_preRow]; exact lifted os started H enc F)
theorem plain (f : FuncId) (fn : Func) (hf : Tryz.pinned.checked.prog.funcNamed "truss/trusslaw11.LoadShows" = some f) (hfn : Tryz.pinned.checked.prog.funcs[f]? = some fn) :
  true = Tryz.pinned.checked.prog.looks [] ∧ ∀ (j : Nat) t,fn.params[j]? = some t → Tryz.pinned.checked.prog.wantsStandIn t = false := by
 obtain rfl : f = 3 := Option.some.inj (named.symm.trans hf) |>.symm
 obtain rfl : fn = Tryz.f3 := (Option.some.inj (Tryz.func3.symm.trans hfn)).symm
 refine ⟨looks.symm,fun j t ht => ?_⟩
 rw [Tryz.params3] at ht
 have hm : t = 22 ∨ t = 25 := by simpa using Array.mem_of_getElem? ht
 rcases hm with rfl | rfl
 ·exact stand22
 ·exact stand25
theorem card1 : Rows.loadShowsRow.wfByText (OpenSpec.ofChange Rows.loadShowsSpec) = true := by kernel_rfl
theorem card2 : Tryz.pinned.checked.prog.mainIs = some (Rows.loadShowsCard.stood.harness.1,Rows.loadShowsCard.stood.harness.2.toList) := by kernel_rfl
theorem goes_none {P : Program} (h : P.funcs.any Func.goes = false) (c : OpenClaim) (hs : c.start = .entering) : false = c.goesBy P := by
 have hf : ∀ f,P.goes f = false := by
  intro f
  unfold Program.goes
  rw [h,Bool.and_false,Bool.or_false]
  rw [List.any_eq_false]
  intro g _
  cases hg : P.funcs[g]? with
  | none => simp
  | some fn =>
   have := Array.any_eq_false.1 h
   obtain ⟨hlt,rfl⟩ := Array.getElem?_eq_some_iff.1 hg
   simpa using this g hlt
 unfold OpenClaim.goesBy Program.goesAt Program.goesFrom
 rw [hs]
 cases P.funcNamed c.func with
 | none => rfl
 | some f => simp [hf f]
theorem goes_not : Tryz.prog.funcs.any Func.goes = false := by kernel_rfl
theorem card3 : false = Rows.loadShowsRow.goesBy Tryz.pinned.checked.prog := goes_none goes_not _ rfl
theorem proved : Rows.LoadShowsCardSaid :=
 Claim7.holds_tied_plain_at .later [] _ _ _ _ said (fun _ h => by cases h) card1 (fun _ h => by cases h) loadShows_row_tie rfl ⟨rfl,rfl⟩ card2 rfl plain card3
#print axioms proved
end Go.Proofs.YtcjblapcdbjoiaaGreatDoor.lawLoadShows

