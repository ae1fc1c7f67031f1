/- SplitGoals: for any valid signature and int, General returns the general goal of a family, and Pattern the pattern of an object constant, or the specified error (trusslaw17, P17.1), for every input of the row, whatever the memory and the schedule: the law returns true and leaves its arguments as they were. No condition. The call is carried by an interpreter that is proved sound for the loaded code (the texts E..): Q: the code as it reads, and the kernel's check of it; KA: the closed part, evaluated by the kernel; P, D: what each function computes, of the program and of the reference. -/
import Derived.Test.YtfbichemhllhbaaGreatRows
import Derived.WalkKit
import Derived.ProofKit
import Derived.OpenShut
import Derived.Deep.DeepHandedRow
import Derived.Deep.DeepWitnessRowRef
import Derived.Lib.LaidTab
import Derived.Test.YtfbichemhllhbaaGreatEvL
import Derived.Test.YtfbichemhllhbaaGreatEvM
set_option linter.unnecessarySimpa false
set_option linter.unusedVariables false
set_option linter.unusedSimpArgs false
set_option linter.unusedSectionVars false
namespace Go.Proofs.YtfbichemhllhbaaGreat.lawSplitGoals
open Go.ChangeShapes Go.WideShapes Go.ChangeAt Go.RowKit
set_option maxRecDepth 100000 in
theorem contract (H:Type) (enc:TypeId×Value→H) (W:World) (base:Nat) (args:Array Value) (ds gs:List (DataW H)) (before:List MemPlace)
  (cD:∀ (j:Nat) t v,Tryz.f3.params[j]? = some t→args[j]? = some v→Value.okWide Tryz.prog W .any base t v)
  (hW:DataW.Whole enc Tryz.prog Tryz.f3.params.toList Rows.splitGoalsSpec.vars false W args.toList ds gs before) :
  Calls Tryz.prog 3 args W fun e W'=>∃ v,e=.returned v∧Rows.splitGoalsSpec.post enc Tryz.prog Tryz.f3 false true false false W args v W':=by
 have hp:∀ t∈Tryz.f3.params.toList,t=3∨t=22:=by rw [Tryz.params3]; intro t ht; first|(simpa using ht)|(simp at ht; rcases ht with h|h<;>simp [h])
 have hin:∀ t∈Tryz.f3.params.toList,t∈([22,3,43,39,24,9]:List TypeId):=fun t ht=>by rcases hp t ht with rfl|rfl<;>simp
 have hre:∀ t∈Tryz.f3.params.toList,Tryz.prog.readableRec t=true∧t<Tryz.prog.types.size:=fun t ht=>by
  rcases hp t ht with rfl|rfl
  ·exact ⟨read3,row3⟩
  ·exact ⟨read22,row22⟩
 have hfn:∀ ds:List (DataW H),ds.length=Tryz.f3.params.size→Rows.splitGoalsSpec.fn H ds={ results:=[.lit (.bool true)],args:=ds }:=by
  intro ds h
  rw [Tryz.params3] at h
  match ds,h with
  | [d1,d2],_=>rfl
 have hrun:∀ n pvs,Ev.HasTysV Tryz.prog n Tryz.f3.params.toList pvs→Ev.az Ev.TT Ev.HH [] 3 pvs []=some (.ret (.b true),[]):=by
  intro n pvs h
  rw [Tryz.params3] at h
  exact Ev.CK n pvs h
 refine Ev.Qy (H:=H) (enc:=enc) (P:=Tryz.prog) (calls:=Ev.az Ev.TT Ev.HH) (f:=3) (fn:=Tryz.f3) (s:=Rows.splitGoalsSpec) (S:=[22,3,43,39,24,9]) (tb:=4) (apart:=false) (fresh:=true) (handsOn:=false) (W:=W) (base:=base) (args:=args) (ds:=ds) (gs:=gs) (before:=before)
  Ev.Vp (by decide) q1 tys hin hre rfl resT Tryz.underlying4 hfn hrun ?_ hW
 intro j t v h1 h2
 exact cD j t v h1 h2
def lay:DataW Unit→Array Value
 | .agg l=>(l.map fun|.lit (.int k n)=>Value.int k n|_=>undef).toArray
 | _=>#[]
def put (c:Array Value):Obj→Obj
 | .cells _ t frozen=>.cells c t frozen
 | o=>o
noncomputable def laidWorld (os:Os):World :=
 let N:=(World.settled Tryz.prog os).heap.size
 { World.holding Tryz.prog os ⟨#[],#[],[]⟩ with heap:=(World.holding Tryz.prog os ⟨#[],#[],[]⟩).heap }
def zero0:Value:=.slice none 0 0
def zero1:Value:=.int .i64 0
theorem laid_met (os:Os):laidMet Tryz.prog Rows.splitGoalsRow.laid ((laidWorld os).forCall (fun _ _=>0) ⟨#[],#[zero0,zero1],[]⟩).memory :=
 laidMet_of_run' 8 (by kernel_rfl) (by kernel_rfl)
theorem reads (os:Os) {H:Type} (enc:TypeId×Value→H):∃ places,DataW.whole enc Tryz.prog ((laidWorld os).forCall (fun _ _=>0) ⟨#[],#[zero0,zero1],[]⟩).memory Tryz.f3.params.toList Rows.splitGoalsSpec.vars false #[zero0,zero1].toList 8=some ([.nil,.lit (.int .i64 0)],[],places) :=
 ⟨[],by kernel_rfl⟩
set_option maxRecDepth 100000 in
theorem lifted (os:Os) (started:os.Started) (H:Type) (enc:TypeId×Value→H) (F:Stop.Interp) :
  ReturnsInHanded {} Tryz.checked os 3 .any ((OpenSpec.ofChange Rows.splitGoalsSpec).preRow enc Tryz.prog Tryz.f3 Rows.splitGoalsRow.domain false Rows.splitGoalsRow.laid) (((OpenSpec.ofChange Rows.splitGoalsSpec).at F).post enc Tryz.prog Tryz.f3 false true false false):=by
 obtain ⟨places,hx⟩:=reads os enc
 refine returnsInHanded_of_row (C:=Tryz.checked) (s:=OpenSpec.ofChange Rows.splitGoalsSpec) own started noInit Tryz.func3
  (witness_row_at (enc:=enc) (C:=Tryz.checked) false (laidWorld os) #[zero0,zero1] rfl (by kernel_rfl) (by kernel_rfl) (by kernel_rfl)
   (OpenSpec.preRow_of_cond 8 hx (by kernel_rfl) (fun k hk=>by cases hk) (by kernel_rfl) (laid_met os))) ?_
 intro W base args ds gs before cD hW _ _ _ hL _ _
 exact contract H enc W base args ds gs before cD hW
theorem said:Rows.SplitGoalsSaid :=
 OpenClaim.holds_of_cond 3 Tryz.f3 rfl rfl rfl rfl rfl rfl rfl ⟨rfl,rfl,rfl,rfl,rfl⟩ rfl rfl rfl rfl rfl named Tryz.func3 closed inst wrap
  (fun os started H enc _ F=>by rw [OpenClaim.pre_eq_preRow]; exact lifted os started H enc F)
theorem proved:Rows.SplitGoalsSaid:=said
#print axioms proved
end Go.Proofs.YtfbichemhllhbaaGreat.lawSplitGoals
