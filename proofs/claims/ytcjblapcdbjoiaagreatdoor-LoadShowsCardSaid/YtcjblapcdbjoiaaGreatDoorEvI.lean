/- strings.Builder's String, with the world that it leaves. -/
import Derived.Shelf.Strings.Builder1
import Derived.Test.YtcjblapcdbjoiaaGreatDoorProg
import Derived.Shelf.Small.Strs
import Derived.Test.YtcjblapcdbjoiaaGreatDoorEvG
import Derived.Shelf.SortM.Plain
import Derived.Shelf.SortM.SortNone
set_option linter.unnecessarySimpa false
set_option linter.unusedVariables false
set_option linter.unusedSimpArgs false
set_option linter.unusedSectionVars false
namespace Go.Proofs
open Go.Shelf Go.RowKit
variable {P : Program} {ρ : Ren}
set_option maxHeartbeats 1000000 in
set_option maxRecDepth 100000 in
theorem builder_String_w (L : Lays.n169 P ρ) (X : Builder.Extra P ρ) (b g cap : Nat) (p : Value) (l : List UInt8) (cur : Array Value) (w : World)
  (hbk : w.heap[b]? = some (.cells #[p,.slice (some ⟨g,0,none⟩) l.length cap] (ρ.t 72) (0,0))) (hg : w.heap[g]? = some (.cells cur (ρ.t 5) (0,0)))
  (h0 : l ≠ []) (hcs : l.length ≤ cur.size) (hmax : l.length ≤ 140737488355328) (hcap : l.length ≤ cap) (hcells : ∀ j x,l[j]? = some x → w.cell? ⟨g,j,none⟩ = some (.int .u8 x.toNat)) :
  Calls P (ρ.f 169) #[.pointer (some ⟨b,0,none⟩)] w fun e w' => e = .returned (.string ⟨l.toArray⟩) ∧ w' = w.drew.freeze ⟨g,0,none⟩ l.length := by
 have hl0 : l.length ≠ 0 := by simpa using h0
 have c1 : w.drew.cell? ⟨b,1,none⟩ = some (.slice (some ⟨g,0,none⟩) l.length cap) := by
  have : w.drew.heap[b]? = some (.cells #[p,.slice (some ⟨g,0,none⟩) l.length cap] (ρ.t 72) (0,0)) := hbk
  rw [Lib.cell_of_heap this]; rfl
 have hSD : (Builtin.unsafeSliceData_ #[(ρ.t 37)] (ρ.t 127) #[.slice (some ⟨g,0,none⟩) l.length cap]).run P w.drew = .ok (.pointer (some ⟨g,0,none⟩)) w.drew :=
  Lib.run_unsafeSliceData_row _ _ _ _ _ _ (by omega)
 have hUS : (Builtin.unsafeString_ #[(ρ.t 127),(ρ.t 3)] (ρ.t 9) #[.pointer (some ⟨g,0,none⟩),.int .i64 l.length]).run P w.drew = .ok (.string ⟨l.toArray⟩) (w.drew.freeze ⟨g,0,none⟩ l.length) := by
  refine Lib.run_unsafeString_row w.drew (ρ.t 127) (ρ.t 3) (ρ.t 9) (ρ.t 5) L.t127 X.cellsByte g cur.size (by have hg' : w.drew.heap[g]? = some (.cells cur (ρ.t 5) (0,0)) := hg; simp [World.shape?,hg']) l h0 (by omega) (by omega) ?_
  intro j x hx
  have e : (⟨g,0,none⟩ : Addr).add j = ⟨g,j,none⟩ := by cases j <;> simp [Addr.add]
  rw [e]
  exact hcells j x hx
 have mixed := L.mixed
 have t72 := L.t72; have a72 := L.a72; have z72 := L.z72; have v72 := L.v72; have u72 := run_underlying L.t72
 have t70 := L.t70; have a70 := L.a70; have z70 := L.z70; have v70 := L.v70; have u70 := run_underlying L.t70
 have t37 := L.t37; have a37 := L.a37; have z37 := L.z37; have v37 := L.v37; have u37 := run_underlying L.t37
 have t127 := L.t127; have a127 := L.a127; have z127 := L.z127; have v127 := L.v127; have u127 := run_underlying L.t127
 have t3 := L.t3; have a3 := L.a3; have z3 := L.z3; have v3 := L.v3; have u3 := run_underlying L.t3
 have t9 := L.t9; have a9 := L.a9; have z9 := L.z9; have v9 := L.v9; have u9 := run_underlying L.t9
 have t5 := X.t5; have a5 := X.a5; have z5 := X.z5; have v5 := X.v5; have u5 := run_underlying X.t5
 go_enter L.f169,Body.n169_ntmps ρ
 go_wp2
 go_region_o
 all_goals (go_wp2; go_ret; exact ⟨rfl,rfl⟩)
theorem wpList_append_run {w w2 : World} {ops : Array Oper} {rest : List Oper} {o : Oper} {a : Act} {Q : Exit → Act → World → Prop} (hgd : o.guard = none) (sl x : Operand) (t u : TypeId)
  (ho : o.op = .call { callee := .builtin .append,args := #[sl,x],argTypes := #[t,u] }) (v v' : Value) (s : ByteArray) (hs : a.eval sl = v) (hx : a.eval x = .string s)
  (hr : (Builtin.append_ #[t,u] o.type #[v,.string s]).run P w = .ok v' w2) (h : wpList P ops Q rest (a.put o.dst v') w2) : wpList P ops Q (o :: rest) a w := by
 refine wpList_plain hgd fun K hK => ?_
 unfold Oper.wp execOp
 simp only [ho,resolve,invoke,builtin,Sem.run_bind,Sem.run_pure,Result.andThen_ok,List.map_toArray,List.map_cons,List.map_nil,hs,hx,hr]
 exact hK _ _ h
end Go.Proofs


namespace Go.Proofs
open Go.Shelf Go.RowKit
set_option maxHeartbeats 1000000 in
set_option maxRecDepth 100000 in
theorem Tryz.copyCheck_used (b : Nat) (w : World) (h0 : w.cell? ⟨b,0,none⟩ = some (.pointer (some ⟨b,0,none⟩))) :
  Calls Tryz.prog 53 #[.pointer (some ⟨b,0,none⟩)] w fun e w' => e = .returned (.tuple #[]) ∧ w' = w := by
 obtain ⟨j,hj,hjs⟩ : ∃ j,Tryz.prog.info? 70 = some j ∧ j.size = 2 := Option.map_eq_some_iff.1 (by kernel_rfl : (Tryz.prog.info? 70).map (·.size) = some 2)
 go_enter Tryz.func53,Tryz.ntmps53
 go_wp2
 rw [Lib.run_neq_ptr_same w _ (by first | exact Tryz.underlying67 | kernel_rfl) hj]
 go_wp2
 go_end0
 exact ⟨rfl,rfl⟩
set_option maxHeartbeats 1000000 in
set_option maxRecDepth 100000 in
theorem Tryz.copyCheck_fresh (b : Nat) (w : World) (h0 : w.cell? ⟨b,0,none⟩ = some (.pointer none)) (hsh : w.shape? b = some (70,2)) (hfz : w.frozen? ⟨b,0,none⟩ = false) :
  Calls Tryz.prog 53 #[.pointer (some ⟨b,0,none⟩)] w fun e w' => e = .returned (.tuple #[]) ∧ w' = w.setCell ⟨b,0,none⟩ (.pointer (some ⟨b,0,none⟩)) := by
 obtain ⟨j,hj,hjs⟩ : ∃ j,Tryz.prog.info? 70 = some j ∧ j.size = 2 := Option.map_eq_some_iff.1 (by kernel_rfl : (Tryz.prog.info? 70).map (·.size) = some 2)
 have t70 : Tryz.prog.underlying 67 = some (.pointer 70) := by kernel_rfl
 have t164 : Tryz.prog.underlying 180 = some .unsafePointer := by kernel_rfl
 have hlies : liesAt Tryz.prog Tryz.prog.depth 70 (2 / Tryz.prog.cellsOf 70) 0 70 1 = true := by kernel_rfl
 go_enter Tryz.func53,Tryz.ntmps53
 go_wp2
 rw [Lib.run_to_unsafe w ⟨b,0,none⟩ t70 t164 hj (by rw [hjs]; decide) hsh (Nat.zero_lt_succ 1)]
 simp only [Result.andThen]
 rw [Oper.upon_value]
 go_wp2
 rw [run_callFunc_extern Tryz.func104 (by kernel_rfl) (by kernel_rfl) (by kernel_rfl) (e := Extern.AbiNoEscape.same) (by kernel_rfl)]
 rw [Lib.run_noEscape]
 simp only [Result.andThen]
 rw [Oper.upon_value]
 go_wp2
 rw [Lib.run_from_unsafe w ⟨b,0,none⟩ t164 t70 hj hsh hlies]
 simp only [Result.andThen]
 rw [Oper.upon_value]
 go_wp2
 go_end0
 exact ⟨rfl,rfl⟩
set_option maxHeartbeats 2000000 in
set_option maxRecDepth 100000 in
theorem Tryz.writeString_w (b : Nat) (v v' : Value) (s : ByteArray) (w w1 w2 : World)
  (hcc : Calls Tryz.prog 53 #[.pointer (some ⟨b,0,none⟩)] w fun e w' => e = .returned (.tuple #[]) ∧ w' = w1)
  (hb1 : w1.heap[b]? = some (.cells #[.pointer (some ⟨b,0,none⟩),v] 70 (0,0))) (hb2 : w2.heap[b]? = some (.cells #[.pointer (some ⟨b,0,none⟩),v] 70 (0,0)))
  (hv' : ∃ a n c,v' = .slice a n c) (hrun : (Builtin.append_ #[68,9] 68 #[v,.string s]).run Tryz.prog w1 = .ok v' w2) :
  Calls Tryz.prog 27 #[.pointer (some ⟨b,0,none⟩),.string s] w fun e w' => e = .returned (.tuple #[.int .i64 s.size,.nilIface]) ∧ w' = w2.setCell ⟨b,1,none⟩ v' := by
 go_enter Tryz.func27,Tryz.ntmps27
 go_wp2_with (go_at_call 53; refine hcc.mono ?_)
 rintro e w' ⟨rfl,rfl⟩
 have c1 : w'.cell? ⟨b,1,none⟩ = some v := by rw [Lib.cell_of_heap hb1]; rfl
 have d0 : w2.cell? ⟨b,0,none⟩ = some (.pointer (some ⟨b,0,none⟩)) := by rw [Lib.cell_of_heap hb2]; rfl
 have d1 : w2.cell? ⟨b,1,none⟩ = some v := by rw [Lib.cell_of_heap hb2]; rfl
 have f1 : w2.frozen? ⟨b,1,none⟩ = false := Lib.frozen_of_heap hb2 1
 obtain ⟨ao,n',cap,rfl⟩ := hv'
 go_wp2_with (at_builtin; refine wpList_append_run rfl _ _ 68 9 rfl _ _ s rfl rfl hrun ?_)
 go_wp2
 go_ret2
 exact ⟨rfl,rfl⟩
set_option maxHeartbeats 1000000 in
set_option maxRecDepth 100000 in
theorem Tryz.builder_String_w (b g cap : Nat) (p : Value) (l : List UInt8) (cur : Array Value) (w : World)
  (hbk : w.heap[b]? = some (.cells #[p,.slice (some ⟨g,0,none⟩) l.length cap] 70 (0,0))) (hg : w.heap[g]? = some (.cells cur 5 (0,0)))
  (h0 : l ≠ []) (hcs : l.length ≤ cur.size) (hmax : l.length ≤ 140737488355328) (hcap : l.length ≤ cap) (hcells : ∀ j x,l[j]? = some x → w.cell? ⟨g,j,none⟩ = some (.int .u8 x.toNat)) :
  Calls Tryz.prog 29 #[.pointer (some ⟨b,0,none⟩)] w fun e w' => e = .returned (.string ⟨l.toArray⟩) ∧ w' = w.drew.freeze ⟨g,0,none⟩ l.length := by
 have hl0 : l.length ≠ 0 := by simpa using h0
 have c1 : w.drew.cell? ⟨b,1,none⟩ = some (.slice (some ⟨g,0,none⟩) l.length cap) := by
  have : w.drew.heap[b]? = some (.cells #[p,.slice (some ⟨g,0,none⟩) l.length cap] 70 (0,0)) := hbk
  rw [Lib.cell_of_heap this]; rfl
 have hSD : (Builtin.unsafeSliceData_ #[68] 119 #[.slice (some ⟨g,0,none⟩) l.length cap]).run Tryz.prog w.drew = .ok (.pointer (some ⟨g,0,none⟩)) w.drew :=
  Lib.run_unsafeSliceData_row _ _ _ _ _ _ (by omega)
 have hUS : (Builtin.unsafeString_ #[119,3] 9 #[.pointer (some ⟨g,0,none⟩),.int .i64 l.length]).run Tryz.prog w.drew = .ok (.string ⟨l.toArray⟩) (w.drew.freeze ⟨g,0,none⟩ l.length) := by
  refine Lib.run_unsafeString_row w.drew 119 3 9 5 (by kernel_rfl) (by kernel_rfl) g cur.size (by have hg' : w.drew.heap[g]? = some (.cells cur 5 (0,0)) := hg; simp [World.shape?,hg']) l h0 (by omega) (by omega) ?_
  intro j x hx
  have e : (⟨g,0,none⟩ : Addr).add j = ⟨g,j,none⟩ := by cases j <;> simp [Addr.add]
  rw [e]
  exact hcells j x hx
 go_enter Tryz.func29,Tryz.ntmps29
 go_wp2
 go_region
 all_goals (go_wp2; go_ret; exact ⟨rfl,rfl⟩)
end Go.Proofs


namespace Go.Proofs
open Go.Shelf
def Tryz.lays137_ren : Go.Shelf.Ren := ⟨fun | 137 => 165 | 217 => 223 | 266 => 273 | n => n,fun | 9 => 9 | 5 => 5 | 3 => 3 | n => n,fun | n => n⟩
theorem Tryz.lays137 : Go.Proofs.Lays.n137 Tryz.prog Tryz.lays137_ren :=
 { mixed := by kernel_rfl,
   f137 := Tryz.func165.trans (congrArg some (by kernel_rfl)),
   f217 := Tryz.func223.trans (congrArg some (by kernel_rfl)),
   f266 := Tryz.func273.trans (congrArg some (by kernel_rfl)),
   t3 := Tryz.underlying3,
   a3 := Tryz.isAgg3,
   z3 := Tryz.sizeOf3,
   v3 := Tryz.zeroValue3,
   t5 := Tryz.underlying5,
   a5 := Tryz.isAgg5,
   z5 := Tryz.sizeOf5,
   v5 := Tryz.zeroValue5,
   t9 := Tryz.underlying9,
   a9 := Tryz.isAgg9,
   z9 := Tryz.sizeOf9,
   v9 := Tryz.zeroValue9 }
theorem Tryz.strings_IndexByte (s : ByteArray) (c : Int) (w : World) :
  Calls Tryz.prog 165 #[.string s,.int .u8 c] w fun e w' => e = .returned (.int .i64 (Lib.indexByte s.data.toList c.toNat.toUInt8)) ∧ w' = w := Any.strings_IndexByte Tryz.lays137 s c w
#print axioms Tryz.strings_IndexByte
end Go.Proofs


namespace Go.Ev
open Go.Proofs
set_option maxRecDepth 100000
theorem elem_facts {P : Program} {E : Nat} (h : (match P.info? E with | some i => i.size == 1 && decide (i.bytes ≤ 32768) && (match i.zero with | some z => z.cells.size == 1 && z.cells.toList.all Value.oneCell' | none => false) | none => false) = true) :
  ∃ i z,P.info? E = some i ∧ i.size = 1 ∧ i.zero = some z ∧ z.cells.size = 1 ∧ z.cells.toList.all Value.oneCell' = true ∧ i.bytes ≤ 32768 := by
 split at h
 ·rename_i i hi
  simp only [Bool.and_eq_true,beq_iff_eq,decide_eq_true_eq] at h
  obtain ⟨⟨h1,h2⟩,h3⟩ := h
  split at h3
  ·rename_i z hz
   simp only [Bool.and_eq_true,beq_iff_eq] at h3
   exact ⟨i,z,hi,h1,hz,h3.1,h3.2,h2⟩
  ·cases h3
 ·cases h
theorem callable_of {P : Program} {f : FuncId} (h : (match P.funcs[f]? with | some fn => fn.body.isSome && !(fn.name == "runtime.NumGoroutine") | none => false) = true) : callable P f := by
 split at h
 ·rename_i fn hf
  simp only [Bool.and_eq_true,Bool.not_eq_true'] at h
  exact ⟨fn,hf,h.1,h.2⟩
 ·cases h
theorem ws_tryz (args : List PV) (σ : Sto) (r : Out × Sto) (hr : wsH 70 5 args σ = some r) :
  callable Tryz.prog 27 ∧ ∀ bars κ w (xs : Array Value),@INV (CR Tryz.prog) bars κ σ w → RelL κ args xs.toList → below.belowAll σ.length args = true → Calls Tryz.prog 27 xs w (@CallPost (CR Tryz.prog) bars κ σ w r) := by
 obtain ⟨i,z,h1,h2,h3,h4,h5,h6⟩ := elem_facts (P := Tryz.prog) (E := 5) (by kernel_rfl)
 exact wsH_ok (t := 68) (tx := 9) (fcc := 53) (callable_of (by kernel_rfl)) (by kernel_rfl) (by kernel_rfl) h1 h2 h3 h4 h5 h6 Tryz.copyCheck_fresh Tryz.copyCheck_used Tryz.writeString_w args σ r hr
theorem index_tryz (args : List PV) (σ : Sto) (r : Out × Sto) (hr : indexH args σ = some r) :
  callable Tryz.prog 165 ∧ ∀ bars κ w (xs : Array Value),@INV (CR Tryz.prog) bars κ σ w → RelL κ args xs.toList → below.belowAll σ.length args = true → Calls Tryz.prog 165 xs w (@CallPost (CR Tryz.prog) bars κ σ w r) :=
 indexH_ok (callable_of (by kernel_rfl)) Tryz.strings_IndexByte args σ r hr
theorem str_tryz (args : List PV) (σ : Sto) (r : Out × Sto) (hr : strH 70 5 args σ = some r) :
  callable Tryz.prog 29 ∧ ∀ bars κ w (xs : Array Value),@INV (CR Tryz.prog) bars κ σ w → RelL κ args xs.toList → below.belowAll σ.length args = true → Calls Tryz.prog 29 xs w (@CallPost (CR Tryz.prog) bars κ σ w r) :=
 strH_ok (callable_of (by kernel_rfl)) Tryz.builder_String_w args σ r hr
#print axioms str_tryz
#print axioms ws_tryz
#print axioms index_tryz
end Go.Ev


namespace Go.Proofs
open Go.RowKit Go.Maps Go.Sort Go.Shelf
def Tryz.keysA_ren : Go.Shelf.Ren := ⟨fun | 7 => 188 | 10 => 234 | n => n,fun | 23 => 255 | 26 => 3 | 3 => 4 | 28 => 258 | 0 => 0 | 27 => 257 | 33 => 306 | 4 => 4 | n => n,fun | n => n⟩
theorem Tryz.keysA : Go.Proofs.SlLaysZI.n7 Tryz.prog Tryz.keysA_ren :=
 { mixed := by kernel_rfl,
   f7 := ⟨Tryz.f188.name,by decide,Tryz.func188.trans (congrArg some (by kernel_rfl))⟩,
   f10 := ⟨Tryz.f234.name,by decide,Tryz.func234.trans (congrArg some (by kernel_rfl))⟩,
   t0 := Tryz.underlying0,
   a0 := Tryz.isAgg0,
   z0 := Tryz.sizeOf0,
   v0 := Tryz.zeroValue0,
   t4 := Tryz.underlying4,
   a4 := Tryz.isAgg4,
   z4 := Tryz.sizeOf4,
   v4 := Tryz.zeroValue4,
   t23 := Tryz.underlying255,
   a23 := Tryz.isAgg255,
   z23 := Tryz.sizeOf255,
   v23 := Tryz.zeroValue255,
   t26 := Tryz.underlying3,
   a26 := Tryz.isAgg3,
   z26 := Tryz.sizeOf3,
   v26 := Tryz.zeroValue3,
   t27 := Tryz.underlying257,
   a27 := Tryz.isAgg257,
   z27 := Tryz.sizeOf257,
   v27 := Tryz.zeroValue257,
   t28 := Tryz.underlying258,
   a28 := Tryz.isAgg258,
   z28 := Tryz.sizeOf258,
   v28 := Tryz.zeroValue258,
   t33 := Tryz.underlying306,
   a33 := Tryz.isAgg306,
   z33 := Tryz.sizeOf306,
   v33 := Tryz.zeroValue306 }
def Tryz.sortedA_ren : Go.Shelf.Ren := ⟨fun | 6 => 187 | 8 => 232 | 9 => 233 | 11 => 278 | 13 => 280 | 12 => 279 | 23 => 327 | 24 => 309 | 14 => 318 | 15 => 319 | 16 => 320 | 17 => 321 | 18 => 322 | 19 => 323 | 20 => 324 | 21 => 325 | 22 => 326 | 25 => 343 | 26 => 344 | 27 => 345 | 28 => 346 | 29 => 347 | 30 => 348 | 31 => 361 | n => n,fun | 26 => 3 | 28 => 258 | 24 => 101 | 0 => 0 | 3 => 3 | 37 => 364 | 48 => 395 | 50 => 352 | 4 => 4 | 40 => 405 | 39 => 404 | 45 => 182 | 5 => 5 | 9 => 9 | 51 => 430 | 55 => 128 | 57 => 445 | 58 => 446 | 33 => 306 | n => n,fun | n => n⟩
theorem Tryz.sortedA : Go.Proofs.SlLaysZI.n6 Tryz.prog Tryz.sortedA_ren :=
 { mixed := by kernel_rfl,
   f6 := ⟨Tryz.f187.name,by decide,Tryz.func187.trans (congrArg some (by kernel_rfl))⟩,
   f8 := ⟨Tryz.f232.name,by decide,Tryz.func232.trans (congrArg some (by kernel_rfl))⟩,
   f11 := ⟨Tryz.f278.name,by decide,Tryz.func278.trans (congrArg some (by kernel_rfl))⟩,
   t0 := Tryz.underlying0,
   a0 := Tryz.isAgg0,
   z0 := Tryz.sizeOf0,
   v0 := Tryz.zeroValue0,
   t24 := Tryz.underlying101,
   a24 := Tryz.isAgg101,
   z24 := Tryz.sizeOf101,
   v24 := Tryz.zeroValue101,
   t26 := Tryz.underlying3,
   a26 := Tryz.isAgg3,
   z26 := Tryz.sizeOf3,
   v26 := Tryz.zeroValue3,
   t28 := Tryz.underlying258,
   a28 := Tryz.isAgg258,
   z28 := Tryz.sizeOf258,
   v28 := Tryz.zeroValue258,
   i26 := by kernel_rfl }
def Tryz.sortA_ren : Go.Shelf.Ren := ⟨fun | 5 => 233 | 8 => 280 | 7 => 279 | 19 => 327 | 20 => 309 | 10 => 318 | 11 => 319 | 12 => 320 | 13 => 321 | 14 => 322 | 15 => 323 | 16 => 324 | 17 => 325 | 18 => 326 | 30 => 343 | 31 => 344 | 32 => 345 | 33 => 346 | 34 => 347 | 35 => 348 | 40 => 361 | n => n,fun | 23 => 101 | 25 => 3 | 3 => 3 | 32 => 364 | 22 => 101 | 0 => 0 | 44 => 395 | 46 => 352 | 4 => 4 | 36 => 405 | 35 => 404 | 41 => 182 | 5 => 5 | 9 => 9 | 53 => 430 | 57 => 128 | 63 => 445 | 64 => 446 | n => n,fun | n => n⟩
theorem Tryz.sortA : Go.Proofs.SlLaysM.n5 Tryz.prog Tryz.sortA_ren :=
 { mixed := by kernel_rfl,
   f5 := ⟨Tryz.f233.name,by decide,Tryz.func233.trans (congrArg some (by kernel_rfl))⟩,
   f7 := ⟨Tryz.f279.name,by decide,Tryz.func279.trans (congrArg some (by kernel_rfl))⟩,
   f8 := Tryz.func280.trans (congrArg some (by kernel_rfl)),
   f10 := ⟨Tryz.f318.name,by decide,Tryz.func318.trans (congrArg some (by kernel_rfl))⟩,
   f11 := ⟨Tryz.f319.name,by decide,Tryz.func319.trans (congrArg some (by kernel_rfl))⟩,
   f12 := ⟨Tryz.f320.name,by decide,Tryz.func320.trans (congrArg some (by kernel_rfl))⟩,
   f13 := ⟨Tryz.f321.name,by decide,Tryz.func321.trans (congrArg some (by kernel_rfl))⟩,
   f14 := ⟨Tryz.f322.name,by decide,Tryz.func322.trans (congrArg some (by kernel_rfl))⟩,
   f15 := ⟨Tryz.f323.name,by decide,Tryz.func323.trans (congrArg some (by kernel_rfl))⟩,
   f16 := ⟨Tryz.f324.name,by decide,Tryz.func324.trans (congrArg some (by kernel_rfl))⟩,
   f17 := ⟨Tryz.f325.name,by decide,Tryz.func325.trans (congrArg some (by kernel_rfl))⟩,
   f18 := ⟨Tryz.f326.name,by decide,Tryz.func326.trans (congrArg some (by kernel_rfl))⟩,
   f19 := Tryz.func327.trans (congrArg some (by kernel_rfl)),
   f20 := Tryz.func309.trans (congrArg some (by kernel_rfl)),
   f30 := ⟨Tryz.f343.name,by decide,Tryz.func343.trans (congrArg some (by kernel_rfl))⟩,
   f31 := Tryz.func344.trans (congrArg some (by kernel_rfl)),
   f32 := Tryz.func345.trans (congrArg some (by kernel_rfl)),
   f33 := ⟨Tryz.f346.name,by decide,Tryz.func346.trans (congrArg some (by kernel_rfl))⟩,
   f34 := ⟨Tryz.f347.name,by decide,Tryz.func347.trans (congrArg some (by kernel_rfl))⟩,
   f35 := ⟨Tryz.f348.name,by decide,Tryz.func348.trans (congrArg some (by kernel_rfl))⟩,
   f40 := ⟨Tryz.f361.name,by decide,Tryz.func361.trans (congrArg some (by kernel_rfl))⟩,
   t0 := Tryz.underlying0,
   a0 := Tryz.isAgg0,
   z0 := Tryz.sizeOf0,
   v0 := Tryz.zeroValue0,
   t3 := Tryz.underlying3,
   a3 := Tryz.isAgg3,
   z3 := Tryz.sizeOf3,
   v3 := Tryz.zeroValue3,
   t4 := Tryz.underlying4,
   a4 := Tryz.isAgg4,
   z4 := Tryz.sizeOf4,
   v4 := Tryz.zeroValue4,
   t5 := Tryz.underlying5,
   a5 := Tryz.isAgg5,
   z5 := Tryz.sizeOf5,
   v5 := Tryz.zeroValue5,
   t9 := Tryz.underlying9,
   a9 := Tryz.isAgg9,
   z9 := Tryz.sizeOf9,
   v9 := Tryz.zeroValue9,
   t22 := Tryz.underlying101,
   a22 := Tryz.isAgg101,
   z22 := Tryz.sizeOf101,
   v22 := Tryz.zeroValue101,
   t23 := Tryz.underlying101,
   a23 := Tryz.isAgg101,
   z23 := Tryz.sizeOf101,
   v23 := Tryz.zeroValue101,
   t25 := Tryz.underlying3,
   a25 := Tryz.isAgg3,
   z25 := Tryz.sizeOf3,
   v25 := Tryz.zeroValue3,
   t32 := Tryz.underlying364,
   a32 := Tryz.isAgg364,
   z32 := Tryz.sizeOf364,
   v32 := Tryz.zeroValue364,
   t35 := Tryz.underlying404,
   a35 := Tryz.isAgg404,
   z35 := Tryz.sizeOf404,
   v35 := Tryz.zeroValue404,
   t36 := Tryz.underlying405,
   a36 := Tryz.isAgg405,
   z36 := Tryz.sizeOf405,
   v36 := Tryz.zeroValue405,
   t41 := Tryz.underlying182,
   a41 := Tryz.isAgg182,
   z41 := Tryz.sizeOf182,
   v41 := Tryz.zeroValue182,
   t44 := Tryz.underlying395,
   a44 := Tryz.isAgg395,
   z44 := Tryz.sizeOf395,
   v44 := Tryz.zeroValue395,
   t46 := Tryz.underlying352,
   a46 := Tryz.isAgg352,
   z46 := Tryz.sizeOf352,
   v46 := Tryz.zeroValue352,
   t53 := Tryz.underlying430,
   a53 := Tryz.isAgg430,
   z53 := Tryz.sizeOf430,
   v53 := Tryz.zeroValue430,
   t57 := Tryz.underlying128,
   a57 := Tryz.isAgg128,
   z57 := Tryz.sizeOf128,
   v57 := Tryz.zeroValue128,
   t63 := Tryz.underlying445,
   a63 := Tryz.isAgg445,
   z63 := Tryz.sizeOf445,
   v63 := Tryz.zeroValue445,
   t64 := Tryz.underlying446,
   a64 := Tryz.isAgg446,
   z64 := Tryz.sizeOf446,
   v64 := Tryz.zeroValue446 }
theorem Tryz.sortsA (m : Nat) : AnyZI.SortsIn Tryz.prog Tryz.sortedA_ren Fence.wide m :=
 ⟨fun blk off cap ss W hH hblk hsz => callsIn_wide.2 (AnyM.slices_Sort_int Tryz.sortA blk off cap ss W hH hblk hsz),
  fun p cap W => callsIn_wide.2 (AnyM.slices_Sort_int_none Tryz.sortA p cap W)⟩
set_option maxHeartbeats 1000000 in
theorem Tryz.sortedKeys (Bm b : Nat) (T : TypeId) (es : Array MapEntry) (clock : Nat) (ks : List Int) (w : World) (hB : w.heap[Bm]? = some (.cells #[.map (some b)] T (0,0))) (hb : w.heap[b]? = some (.map es clock)) (hk : es.toList.map (·.key) = ks.map (Value.int .i64)) (hnd : ks.Nodup) (hf : ∀ n ∈ ks,Ev.fitsI n = true) (hl : ks.length ≤ Ev.LIM) (hbo : Ev.Born es.toList clock) :
  Calls Tryz.prog 187 #[.func (.func 234) #[] #[.pointer (some ⟨Bm,0,none⟩)]] w fun e w' => ∃ v T',e = .returned v ∧ w'.ownsRow w.heap.size T' 1 v ks.length ((Ev.isort ks).map (Value.int .i64)) ∧ Below w.heap.size w w' := by
 refine (callsIn_wide (n := 5)).1 ?_
 obtain ⟨D0,hown,hp,hs⟩ := Ev.keys_owned (P := Tryz.prog) (k := 3) (by kernel_rfl) hk hnd hf hl hbo hb
 have hlim : ks.length ≤ 4294967296 := by simpa [Ev.LIM] using hl
 have hseq : SeqGives Fence.wide 2 Tryz.prog 234 #[.pointer (some ⟨Bm,0,none⟩)] encZ (fun ss => ss.Perm (intKeys D0)) (Maps.size D0) w :=
  AnyZI.keys_gives (ρ := Tryz.keysA_ren) { Tryz.keysA with } Fence.wide _ trivial rfl (by omega) Bm b ks.length D0 w (Array.getElem?_eq_some_iff.1 hB).1 (by simp [World.cell?,hB]) hown
 have cS := AnyZI.sorted_in Tryz.sortedA Fence.wide 5 trivial trivial trivial trivial rfl (by omega) (Tryz.sortsA _) (enters_of Tryz.func233 (by kernel_rfl) rfl) 234 #[.pointer (some ⟨Bm,0,none⟩)] trivial (enters_of Tryz.func234 (by kernel_rfl) rfl) _ _ (by rw [hs]; unfold maxLen; omega) (by rw [hs]; omega) _ hseq
 change CallsIn _ _ Tryz.prog 187 _ _ _ at cS
 refine cS.mono ?_
 rintro e w' ⟨v,ss,rfl,hS,hrow,hnil,hbel⟩
 have hperm := hS.trans hp
 rw [hperm.length_eq,Ev.mergeSort_isort hperm] at hrow
 exact ⟨v,_,rfl,hrow,hbel⟩
end Go.Proofs
namespace Go.Ev
open Go.Proofs
set_option maxRecDepth 100000
theorem sorted_tryz (args : List PV) (σ : Sto) (r : Out × Sto) (hr : sortedH 234 args σ = some r) :
  callable Tryz.prog 187 ∧ ∀ bars κ w (xs : Array Value),@INV (CR Tryz.prog) bars κ σ w → RelL κ args xs.toList → below.belowAll σ.length args = true → Calls Tryz.prog 187 xs w (@CallPost (CR Tryz.prog) bars κ σ w r) := by
 refine sortedH_ok (callable_of (by kernel_rfl)) ?_ args σ r hr
 intro Bm b T es clock ks w h1 h2 h3 h4 h5 h6 h7
 exact Tryz.sortedKeys Bm b T es clock ks w h1 h2 h3 h4 h5 h6 h7
end Go.Ev
