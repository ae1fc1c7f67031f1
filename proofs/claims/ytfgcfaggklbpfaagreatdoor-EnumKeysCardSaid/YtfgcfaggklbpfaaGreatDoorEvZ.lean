/- EnumKeys: for any two terms (trusslaw21, P21.2), for every input of the row, whatever the memory and the schedule: the law returns true and leaves its arguments as they were. No condition beyond the card's own. The call is carried by an interpreter that is proved sound for the loaded code (the texts E..): K0, K1: the code as it reads; KT: the kernel's check of it; KA: the closed part, evaluated by the kernel; SA to SJ: what each function computes, and that the program and the reference agree. -/
import Derived.Test.YtfgcfaggklbpfaaGreatDoorCards
import Derived.Test.YtfgcfaggklbpfaaGreatDoorTie
import Derived.WalkKit
import Derived.ProofKit
import Derived.OpenShut
import Derived.Deep.DeepHandedRow
import Derived.Lib.LaidTab
import Derived.Test.YtfgcfaggklbpfaaGreatDoorEvT
import Derived.Test.YtfgcfaggklbpfaaGreatDoorEvX
set_option linter.unnecessarySimpa false
set_option linter.unusedVariables false
set_option linter.unusedSimpArgs false
set_option linter.unusedSectionVars false
namespace Go.Proofs.YtfgcfaggklbpfaaGreatDoor.lawEnumKeys
open Go.ChangeShapes Go.WideShapes Go.ChangeAt Go.RowKit

set_option maxRecDepth 100000 in
theorem contract (H : Type) (enc : TypeId × Value → H) (W : World) (base : Nat) (args : Array Value) (ds gs : List (DataW H)) (before : List MemPlace)
    (hval : ∀ (j : Nat) t v, Tryz.f3.params[j]? = some t → args[j]? = some v → Value.okWide Tryz.prog W .any base t v)
    (hW : DataW.Whole enc Tryz.prog Tryz.f3.params.toList Rows.enumKeysSpec.vars false W args.toList ds gs before) :
    Calls Tryz.prog 3 args W fun e W' => ∃ v, e = .returned v ∧ Rows.enumKeysSpec.post enc Tryz.prog Tryz.f3 false true false false W args v W' := by
  have hp : ∀ t ∈ Tryz.f3.params.toList, t = 24 := by rw [Tryz.params3]; intro t ht; simpa using ht
  have hin : ∀ t ∈ Tryz.f3.params.toList, t ∈ ([24, 22, 3] : List TypeId) := fun t ht => by rw [hp t ht]; simp
  have hre : ∀ t ∈ Tryz.f3.params.toList, Tryz.prog.readableRec t = true ∧ t < Tryz.prog.types.size := fun t ht => by rw [hp t ht]; exact ⟨read24, row24⟩
  have hfn : ∀ ds : List (DataW H), ds.length = Tryz.f3.params.size → Rows.enumKeysSpec.fn H ds = { results := [.lit (.bool true)], args := ds } := by
    intro ds h
    rw [Tryz.params3] at h
    match ds, h with
    | [d1, d2], _ => rfl
  have hrun : ∀ n pvs, Ev.HasTysV Tryz.prog n Tryz.f3.params.toList pvs → Ev.runV Ev.TT Ev.HH [] 3 pvs [] = some (.ret (.b true), []) := by
    intro n pvs h
    rw [Tryz.params3] at h
    exact Ev.EnumKeys_run n pvs h
  refine Ev.law_of (H := H) (enc := enc) (P := Tryz.prog) (calls := Ev.runV Ev.TT Ev.HH) (f := 3) (fn := Tryz.f3) (s := Rows.enumKeysSpec) (S := [24, 22, 3]) (tb := 4) (apart := false) (fresh := true) (handsOn := false) (W := W) (base := base) (args := args) (ds := ds) (gs := gs) (before := before)
    Ev.R_ok Ev.lt_law21_EnumKeys q1 tys hin hre rfl res3 Tryz.underlying4 hfn hrun ?_ hW
  intro j t v h1 h2
  exact hval j t v h1 h2

/-- The cells of a table. -/
def lay : DataW Unit → Array Value
  | .agg l => (l.map fun | .lit (.int k n) => Value.int k n | _ => undef).toArray
  | _ => #[]
def put (c : Array Value) : Obj → Obj
  | .cells _ t frozen => .cells c t frozen
  | o => o
/-- A world for the witness: the settled one, the tables holding what their initialisers lay. -/
noncomputable def laidWorld (os : Os) : World :=
  { World.holding Tryz.prog os ⟨#[], #[], []⟩ with heap := (((World.holding Tryz.prog os ⟨#[], #[], []⟩).heap.modify 0 (put (lay Rows.laid_internal_strconv_uint64pow10))).modify 4 (put (lay Rows.laid_math_bits_deBruijn32tab))).modify 5 (put (lay Rows.laid_math_bits_deBruijn64tab)) }
def zeroTm : Value := .agg #[.int .i64 0, .int .i64 0, .int .i64 0, .slice none 0 0]
theorem laid_met (os : Os) : laidMet Tryz.prog Rows.enumKeysRow.laid ((laidWorld os).forCall (fun _ _ => 0) ⟨#[], #[zeroTm, zeroTm], []⟩).memory :=
  laidMet_of_run' 8 (by kernel_rfl) (by kernel_rfl)
theorem reads (os : Os) {H : Type} (enc : TypeId × Value → H) : ∃ places, DataW.whole enc Tryz.prog ((laidWorld os).forCall (fun _ _ => 0) ⟨#[], #[zeroTm, zeroTm], []⟩).memory Tryz.f3.params.toList Rows.enumKeysSpec.vars false #[zeroTm, zeroTm].toList 8 = some ([.agg [.lit (.int .i64 0), .lit (.int .i64 0), .lit (.int .i64 0), .nil], .agg [.lit (.int .i64 0), .lit (.int .i64 0), .lit (.int .i64 0), .nil]], [], places) :=
  ⟨[], by kernel_rfl⟩

set_option maxRecDepth 100000 in
theorem lifted (os : Os) (started : os.Started) (H : Type) (enc : TypeId × Value → H) (F : Stop.Interp) :
    ReturnsInHanded {} Tryz.checked os 3 .any ((OpenSpec.ofChange Rows.enumKeysSpec).preRow enc Tryz.prog Tryz.f3 Rows.enumKeysRow.domain false Rows.enumKeysRow.laid) (((OpenSpec.ofChange Rows.enumKeysSpec).at F).post enc Tryz.prog Tryz.f3 false true false false) := by
  obtain ⟨places, hx⟩ := reads os enc
  refine returnsInHanded_of_row (C := Tryz.checked) (s := OpenSpec.ofChange Rows.enumKeysSpec) own started noInit Tryz.func3
    (witness_row_at (enc := enc) (C := Tryz.checked) false (laidWorld os) #[zeroTm, zeroTm] rfl (by kernel_rfl) (by kernel_rfl) (by kernel_rfl)
      (OpenSpec.preRow_of_cond 8 hx (by kernel_rfl) (fun k hk => by cases hk) (by kernel_rfl) (laid_met os))) ?_
  intro W base args ds gs before hval hW _ _ _ hL _ _
  exact contract H enc W base args ds gs before hval hW

theorem said : Rows.EnumKeysSaid :=
  OpenClaim.holds_of_cond 3 Tryz.f3 rfl rfl rfl rfl rfl rfl rfl ⟨rfl, rfl, rfl, rfl, rfl⟩ rfl rfl rfl rfl rfl named Tryz.func3 closed inst wrap
    (fun os started H enc _ F => by rw [OpenClaim.pre_eq_preRow]; exact lifted os started H enc F)

theorem plain (f : FuncId) (fn : Func) (hf : Tryz.pinned.checked.prog.funcNamed "truss/trusslaw21.EnumKeys" = some f) (hfn : Tryz.pinned.checked.prog.funcs[f]? = some fn) :
    true = Tryz.pinned.checked.prog.looks [] ∧ ∀ (j : Nat) t, fn.params[j]? = some t → Tryz.pinned.checked.prog.wantsStandIn t = false := by
  obtain rfl : f = 3 := Option.some.inj (named.symm.trans hf) |>.symm
  obtain rfl : fn = Tryz.f3 := (Option.some.inj (Tryz.func3.symm.trans hfn)).symm
  refine ⟨looks.symm, fun j t ht => ?_⟩
  rw [Tryz.params3] at ht
  obtain rfl : t = 24 := by simpa using Array.mem_of_getElem? ht
  exact stand24

theorem proved : Rows.EnumKeysCardSaid :=
  Claim7.holds_tied_plain_at .later [] _ _ _ _ said (fun _ h => by cases h) (by kernel_rfl) (fun _ h => by cases h) enumKeys_row_tie rfl ⟨rfl, rfl⟩ (by kernel_rfl) rfl plain (by kernel_rfl)
#print axioms proved
end Go.Proofs.YtfgcfaggklbpfaaGreatDoor.lawEnumKeys

