/- Values of the program's types; rules for the symbolic evaluation of the interpreter. -/
import Derived.Test.YtcjblapcdbjoiaaGreatDoorEvF
import Derived.Lib.SlicesS
import Derived.Test.YtcjblapcdbjoiaaGreatDoorEvK
set_option linter.unnecessarySimpa false
set_option linter.unusedVariables false
set_option linter.unusedSimpArgs false
set_option linter.unusedSectionVars false
namespace Go.Ev
noncomputable section
@[simp] theorem cells_agg (c : List PV) : cells (.agg c) = c := rfl
@[simp] theorem cells_k (v : Value) : cells (.k v) = [.k v] := rfl
@[simp] theorem cells_sl (t : Bool) (e : List (List PV)) : cells (.sl t e) = [.sl t e] := rfl
@[simp] theorem cells_ow (a b : Nat) (e : List (List PV)) : cells (.ow a b e) = [.ow a b e] := rfl
@[simp] theorem cells_rs (a b c d : Nat) : cells (.rs a b c d) = [.rs a b c d] := rfl
@[simp] theorem cells_ptr (a b : Nat) : cells (.ptr a b) = [.ptr a b] := rfl
@[simp] theorem cells_fn (f : Fn) (l : List PV) : cells (.fn f l) = [.fn f l] := rfl
@[simp] theorem cells_map (a : Nat) : cells (.map a) = [.map a] := rfl
@[simp] theorem cells_iface (t : TypeId) (v : PV) : cells (.iface t v) = [.iface t v] := rfl
@[simp] theorem cells_bm (f : FuncId) (l : List PV) : cells (.bm f l) = [.bm f l] := rfl
@[simp] theorem cells_yld (a : Nat) : cells (.yld a) = [.yld a] := rfl
@[simp] theorem okc_agg (l : List PV) : okc (.agg l) = true := rfl
@[simp] theorem okc_sl (t : Bool) (e : List (List PV)) : okc (.sl t e) = true := rfl
@[simp] theorem okc_ow (a b : Nat) (e : List (List PV)) : okc (.ow a b e) = true := rfl
@[simp] theorem okc_rs (a b c d : Nat) : okc (.rs a b c d) = true := rfl
@[simp] theorem okc_ptr (a b : Nat) : okc (.ptr a b) = true := rfl
@[simp] theorem okc_fn (f : Fn) (l : List PV) : okc (.fn f l) = true := rfl
@[simp] theorem okc_bm (f : FuncId) (l : List PV) : okc (.bm f l) = true := rfl
@[simp] theorem okc_yld (a : Nat) : okc (.yld a) = true := rfl
@[simp] theorem okc_map (a : Nat) : okc (.map a) = true := rfl
@[simp] theorem okc_iface (a : TypeId) (v : PV) : okc (.iface a v) = true := rfl
@[simp] theorem okc_int (k : IntKind) (n : Int) : okc (.k (.int k n)) = true := rfl
@[simp] theorem okc_bool (b : Bool) : okc (.k (.bool b)) = true := rfl
@[simp] theorem okc_str (s : ByteArray) : okc (.k (.string s)) = true := rfl
@[simp] theorem okc_nilf : okc (.k .nilFunc) = true := rfl
@[simp] theorem okc_nili : okc (.k .nilIface) = true := rfl
@[simp] theorem okc_nilp : okc (.k (.pointer none)) = true := rfl
@[simp] theorem okc_nilm : okc (.k (.map none)) = true := rfl
theorem nr {a b : Bool} (h : a = b) : a = b := by cases a <;> cases b <;> first | rfl | exact h
@[simp] theorem b_k (n : Nat) (v : Value) : below n (.k v) = true := nr (by simp only [below])
@[simp] theorem b_ptr (n id o : Nat) : below n (.ptr id o) = decide (id < n) := nr (by simp only [below])
@[simp] theorem b_pa (n id a b c : Nat) : below n (.pa id a b c) = decide (id < n) := nr (by simp only [below])
@[simp] theorem b_pe (n : Nat) (cs : List PV) (o : Nat) : below n (.pe cs o) = below.belowAll n cs := nr (by simp only [below])
@[simp] theorem b_sl (n : Nat) (t : Bool) (es : List (List PV)) : below n (.sl t es) = below.belowEs n es := nr (by simp only [below])
@[simp] theorem b_ow (n id m : Nat) (es : List (List PV)) : below n (.ow id m es) = (decide (id < n) && below.belowEs n es) := nr (by simp only [below])
@[simp] theorem b_rs (n id a b c : Nat) : below n (.rs id a b c) = decide (id < n) := nr (by simp only [below])
@[simp] theorem b_agg (n : Nat) (cs : List PV) : below n (.agg cs) = below.belowAll n cs := nr (by simp only [below])
@[simp] theorem b_tup (n : Nat) (cs : List PV) : below n (.tup cs) = below.belowAll n cs := nr (by simp only [below])
@[simp] theorem b_fn (n : Nat) (f : Fn) (cs : List PV) : below n (.fn f cs) = below.belowAll n cs := nr (by simp only [below])
@[simp] theorem b_yld (n id : Nat) : below n (.yld id) = decide (id < n) := nr (by simp only [below])
@[simp] theorem b_bm (n : Nat) (f : FuncId) (cs : List PV) : below n (.bm f cs) = below.belowAll n cs := nr (by simp only [below])
@[simp] theorem b_map (n id : Nat) : below n (.map id) = decide (id < n) := nr (by simp only [below])
@[simp] theorem b_iface (n : Nat) (t : TypeId) (v : PV) : below n (.iface t v) = below n v := nr (by simp only [below])
@[simp] theorem bA_nil (n : Nat) : below.belowAll n [] = true := nr (by simp only [below.belowAll])
@[simp] theorem bA_cons (n : Nat) (v : PV) (r : List PV) : below.belowAll n (v :: r) = (below n v && below.belowAll n r) := nr (by simp only [below.belowAll])
@[simp] theorem bA_app (n : Nat) (a b : List PV) : below.belowAll n (a ++ b) = (below.belowAll n a && below.belowAll n b) := nr (belowAll_append a b)
@[simp] theorem bE_nil (n : Nat) : below.belowEs n [] = true := nr (by simp only [below.belowEs])
@[simp] theorem bE_cons (n : Nat) (v : List PV) (r : List (List PV)) : below.belowEs n (v :: r) = (below.belowAll n v && below.belowEs n r) := nr (by simp only [below.belowEs])
@[simp] theorem bE_app (n : Nat) (a b : List (List PV)) : below.belowEs n (a ++ b) = (below.belowEs n a && below.belowEs n b) := nr (belowEs_append a b)
class Enc (α : Type) where
 sz : Nat
 cells : α → List PV
 len : ∀ x,(cells x).length = sz
 below : ∀ n x,below.belowAll n (cells x) = true
 nrm : ∀ x,norm.normAll (cells x) = cells x
def encL {α : Type} [Enc α] (l : List α) : List (List PV) := l.map Enc.cells
@[simp] theorem encL_nil {α : Type} [Enc α] : encL ([] : List α) = [] := rfl
@[simp] theorem encL_length {α : Type} [Enc α] (l : List α) : (encL l).length = l.length := by simp [encL]
theorem encL_append {α : Type} [Enc α] (a b : List α) : encL (a ++ b) = encL a ++ encL b := by simp [encL]
theorem encL_cons {α : Type} [Enc α] (a : α) (b : List α) : encL (a :: b) = Enc.cells a :: encL b := rfl
@[simp] theorem encL_app {α : Type} [Enc α] (a b : List α) : encL a ++ encL b = encL (a ++ b) := (encL_append a b).symm
@[simp] theorem encL_app1 {α : Type} [Enc α] (a : List α) (x : α) : encL a ++ [Enc.cells x] = encL (a ++ [x]) := by rw [encL_append]; rfl
@[simp] theorem encL_get {α : Type} [Enc α] (l : List α) (i : Nat) : (encL l)[i]? = (l[i]?).map Enc.cells := by simp [encL]
@[simp] theorem encL_drop {α : Type} [Enc α] (l : List α) (i : Nat) : (encL l).drop i = encL (l.drop i) := by simp [encL]
@[simp] theorem encL_take {α : Type} [Enc α] (l : List α) (i : Nat) : (encL l).take i = encL (l.take i) := by simp [encL]
@[simp] theorem encL_set {α : Type} [Enc α] (l : List α) (i : Nat) (x : α) : (encL l).set i (Enc.cells x) = encL (l.set i x) := by simp [encL]
@[simp] theorem belowE_encL {α : Type} [Enc α] (n : Nat) : ∀ l : List α,below.belowEs n (encL l) = true
 | [] => rfl
 | a :: r => by simp [encL_cons,Enc.below,belowE_encL n r]
@[simp] theorem allLen_encL {α : Type} [Enc α] : ∀ l : List α,allLen (Enc.sz α) (encL l) = true
 | [] => rfl
 | a :: r => by simp [encL_cons,allLen,Enc.len,allLen_encL r]
instance : Enc Int := ⟨1,fun n => [.i n],fun _ => rfl,fun _ _ => rfl,fun _ => rfl⟩
instance : Enc ByteArray := ⟨1,fun s => [.s s],fun _ => rfl,fun _ _ => rfl,fun _ => rfl⟩
instance : Enc Bool := ⟨1,fun b => [.b b],fun _ => rfl,fun _ _ => rfl,fun _ => rfl⟩
@[simp] theorem cells_int (n : Int) : Enc.cells n = [PV.i n] := rfl
@[simp] theorem cells_str (s : ByteArray) : Enc.cells s = [PV.s s] := rfl
@[simp] theorem cells_bool (b : Bool) : Enc.cells b = [PV.b b] := rfl
@[simp] theorem allLen_int (l : List Int) : allLen 1 (encL l) = true := allLen_encL l
@[simp] theorem allLen_str (l : List ByteArray) : allLen 1 (encL l) = true := allLen_encL l
@[simp] theorem allLen_bool (l : List Bool) : allLen 1 (encL l) = true := allLen_encL l
@[simp] theorem encL_int1 (l : List Int) (n : Int) : encL l ++ [[PV.i n]] = encL (l ++ [n]) := by rw [encL_append]; rfl
@[simp] theorem encL_str1 (l : List ByteArray) (n : ByteArray) : encL l ++ [[PV.s n]] = encL (l ++ [n]) := by rw [encL_append]; rfl
@[simp] theorem encL_bool1 (l : List Bool) (n : Bool) : encL l ++ [[PV.b n]] = encL (l ++ [n]) := by rw [encL_append]; rfl
@[simp] theorem norm_encL {α : Type} [Enc α] (t : Bool) (l : List α) : norm (.sl t (encL l)) = .sl false (encL l) := rfl
inductive Tm where
 | mk (op hd n : Int) (args : List Tm)
def Tm.op : Tm → Int | .mk a _ _ _ => a
def Tm.hd : Tm → Int | .mk _ a _ _ => a
def Tm.n : Tm → Int | .mk _ _ a _ => a
def Tm.args : Tm → List Tm | .mk _ _ _ a => a
@[simp] theorem Tm.op_mk (a b c : Int) (l : List Tm) : (Tm.mk a b c l).op = a := rfl
@[simp] theorem Tm.hd_mk (a b c : Int) (l : List Tm) : (Tm.mk a b c l).hd = b := rfl
@[simp] theorem Tm.n_mk (a b c : Int) (l : List Tm) : (Tm.mk a b c l).n = c := rfl
@[simp] theorem Tm.args_mk (a b c : Int) (l : List Tm) : (Tm.mk a b c l).args = l := rfl
@[simp] theorem Tm.eta : ∀ t : Tm,Tm.mk t.op t.hd t.n t.args = t | .mk _ _ _ _ => rfl
mutual
def Tm.cells : Tm → List PV
 | .mk op hd n args => [.i op,.i hd,.i n,.sl false (Tm.cellsL args)]
def Tm.cellsL : List Tm → List (List PV)
 | [] => []
 | t :: r => Tm.cells t :: Tm.cellsL r
end
theorem Tm.cellsL_map (l : List Tm) : Tm.cellsL l = l.map Tm.cells := by
 induction l with
 | nil => rfl
 | cons t r ih => simp [Tm.cellsL,ih]
theorem Tm.ind {p : Tm → Prop} (h : ∀ t : Tm,(∀ x ∈ t.args,p x) → p t) : ∀ t,p t
 | .mk op hd n args => h (.mk op hd n args) fun t ht => Tm.ind h t
termination_by t => SizeOf.sizeOf t
decreasing_by
 simp at ht
 have := List.sizeOf_lt_of_mem ht
 simp; omega
mutual
theorem Tm.below_cells (n : Nat) : ∀ t : Tm,below.belowAll n t.cells = true
 | .mk op hd m args => by simp [Tm.cells,Tm.below_cellsL n args]
theorem Tm.below_cellsL (n : Nat) : ∀ l : List Tm,below.belowEs n (Tm.cellsL l) = true
 | [] => rfl
 | t :: r => by simp [Tm.cellsL,Tm.below_cells n t,Tm.below_cellsL n r]
end
instance : Enc Tm := ⟨4,Tm.cells,fun t => by cases t; rfl,Tm.below_cells,fun t => by cases t; simp [Tm.cells,norm.normAll,norm]⟩
theorem Tm.cellsL_eq (l : List Tm) : Tm.cellsL l = encL l := Tm.cellsL_map l
@[simp] theorem tm_cells (t : Tm) : Enc.cells t = [.i t.op,.i t.hd,.i t.n,.sl false (encL t.args)] := by
 cases t; rw [← Tm.cellsL_eq]; rfl
def Tm.enc (t : Tm) : PV := .agg (Enc.cells t)
@[simp] theorem agg_tm (a b c : Int) (l : List Tm) (t : Bool) : PV.agg [.i a,.i b,.i c,.sl t (encL l)] = PV.agg [.i a,.i b,.i c,.sl t (encL l)] := rfl
theorem tm_fold (a b c : Int) (l : List Tm) : PV.agg [.i a,.i b,.i c,.sl false (encL l)] = (Tm.mk a b c l).enc := by simp [Tm.enc]
theorem tm_fold' (t : Tm) : PV.agg [.i t.op,.i t.hd,.i t.n,.sl false (encL t.args)] = t.enc := by simp [Tm.enc]
@[simp] theorem below_tm (n : Nat) (t : Tm) : below n t.enc = true := by rw [Tm.enc,b_agg,Enc.below]
@[simp] theorem norm_tm (t : Tm) : norm t.enc = t.enc := by rw [Tm.enc,norm,Enc.nrm]
@[simp] theorem okc_tm (t : Tm) : okc t.enc = true := rfl
@[simp] theorem cells_tm (t : Tm) : Go.Ev.cells t.enc = [.i t.op,.i t.hd,.i t.n,.sl false (encL t.args)] := by rw [Tm.enc,cells_agg,tm_cells]
@[simp] theorem allLen_tm (l : List Tm) : allLen 4 (encL l) = true := allLen_encL l
@[simp] theorem encL_tm1 (l : List Tm) (a b c : Int) (r : List Tm) : encL l ++ [[.i a,.i b,.i c,.sl false (encL r)]] = encL (l ++ [Tm.mk a b c r]) := by rw [encL_append,encL_cons,tm_cells]; rfl
def I64 (n : Int) : Prop := -9223372036854775808 ≤ n ∧ n ≤ 9223372036854775807
theorem wrap_small (n : Int) (h0 : -9223372036854775808 ≤ n) (h1 : n ≤ 9223372036854775807) : IntKind.i64.wrap n = n := by
 simp [IntKind.wrap,IntKind.bits,IntKind.signed]
 omega
theorem barsOk_closed {id : Nat} {x : PV} (h : below 0 x = true) : ∀ bars,barsOk bars id x = true
 | [] => rfl
 | b :: r => by simp [barsOk,below_mono (Nat.zero_le b) x h,barsOk_closed h r]
@[simp] theorem barsOk_c (bars : List Nat) (id : Nat) (x : PV) (h : below 0 x = true) : barsOk bars id x = true := barsOk_closed h bars
theorem get_some {α : Type} {l : List α} {i : Nat} (h : i < l.length) : ∃ t,l[i]? = some t ∧ t ∈ l ∧ l.drop i = t :: l.drop (i + 1) :=
 ⟨l[i],List.getElem?_eq_getElem h,List.getElem_mem h,List.drop_eq_getElem_cons h⟩
theorem drop_end {α : Type} {l : List α} {i : Nat} (h : l.length ≤ i) : l.drop i = [] := List.drop_eq_nil_of_le h
theorem app_old {σ : Sto} {p : Nat} (l : Sto) (h : p < σ.length) : (σ ++ l)[p]? = σ[p]? := List.getElem?_append_left h
theorem set_old {σ : Sto} {p : Nat} (l : Sto) (x : Ob) (h : p < σ.length) : (σ ++ l).set p x = σ.set p x ++ l := List.set_append_left _ _ h
theorem lt_of_get {σ : Sto} {p : Nat} {ob : Ob} (h : σ[p]? = some ob) : p < σ.length := (List.getElem?_eq_some_iff.1 h).1
@[simp] theorem bin_add (j : IntKind) (a b : Int) : binE .add (.k (.int j a)) (.k (.int j b)) = some (.k (.int j (j.wrap (a + b)))) := if_pos rfl
@[simp] theorem bin_sub (j : IntKind) (a b : Int) : binE .sub (.k (.int j a)) (.k (.int j b)) = some (.k (.int j (j.wrap (a - b)))) := if_pos rfl
@[simp] theorem bin_mul (j : IntKind) (a b : Int) : binE .mul (.k (.int j a)) (.k (.int j b)) = some (.k (.int j (j.wrap (a * b)))) := if_pos rfl
@[simp] theorem bin_eql (j : IntKind) (a b : Int) : binE .eql (.k (.int j a)) (.k (.int j b)) = some (.b (decide (a = b))) := if_pos rfl
@[simp] theorem bin_neq (j : IntKind) (a b : Int) : binE .neq (.k (.int j a)) (.k (.int j b)) = some (.b (!decide (a = b))) := if_pos rfl
@[simp] theorem bin_lss (j : IntKind) (a b : Int) : binE .lss (.k (.int j a)) (.k (.int j b)) = some (.b (decide (a < b))) := if_pos rfl
@[simp] theorem bin_leq (j : IntKind) (a b : Int) : binE .leq (.k (.int j a)) (.k (.int j b)) = some (.b (decide (a ≤ b))) := if_pos rfl
@[simp] theorem bin_gtr (j : IntKind) (a b : Int) : binE .gtr (.k (.int j a)) (.k (.int j b)) = some (.b (decide (b < a))) := if_pos rfl
@[simp] theorem bin_geq (j : IntKind) (a b : Int) : binE .geq (.k (.int j a)) (.k (.int j b)) = some (.b (decide (b ≤ a))) := if_pos rfl
@[simp] theorem bin_quo (j : IntKind) (a b : Int) : binE .quo (.k (.int j a)) (.k (.int j b)) = if b = 0 then none else some (.k (.int j (j.wrap (a.tdiv b)))) := if_pos rfl
@[simp] theorem bin_rem (j : IntKind) (a b : Int) : binE .rem (.k (.int j a)) (.k (.int j b)) = if b = 0 then none else some (.k (.int j (a.tmod b))) := if_pos rfl
theorem str_beq (a b : ByteArray) : (a.toList == b.toList) = decide (a = b) := by
 by_cases h : a = b
 ·subst h; simp
 ·rw [decide_eq_false h]; exact (Go.Lib.bytes_beq_false_iff a b).2 h
@[simp] theorem bin_seql (a b : ByteArray) : binE .eql (.k (.string a)) (.k (.string b)) = some (.b (decide (a = b))) := by rw [← str_beq]; rfl
@[simp] theorem bin_sneq (a b : ByteArray) : binE .neq (.k (.string a)) (.k (.string b)) = some (.b (!decide (a = b))) := by rw [← str_beq]; rfl
@[simp] theorem bin_sadd (a b : ByteArray) : binE .add (.k (.string a)) (.k (.string b)) = if a.size + b.size ≤ LIM then some (.s (a ++ b)) else none := rfl
attribute [simp] look putE evs evp evq evo wantedE ev
section
variable {T : FuncId → Option IF} {H : Hook}
def RR (T : FuncId → Option IF) (H : Hook) : Sem' := xcall (runV T H)
def E (T : FuncId → Option IF) (H : Hook) : CSem := evC (RR T H) iterW
def LO (T : FuncId → Option IF) (H : Hook) (b : List Nat) (a : IC) (x : Env × Sto) : Option (Ex × Env × Sto) := iterW (fun x => E T H b a x.1 x.2) x
theorem LO_eq (b : List Nat) (a : IC) (env : Env) (σ : Sto) : LO T H b a (env,σ) = match E T H b a env σ with
  | some (.norm,env',σ') => LO T H b a (env',σ')
  | r => r := by
 unfold LO
 rw [iterW_eq]
 cases E T H b a env σ with
 | none => rfl
 | some y => obtain ⟨e,y1,y2⟩ := y; cases e <;> rfl
theorem E_skip (b : List Nat) (env : Env) (σ : Sto) : E T H b .skip env σ = some (.norm,env,σ) := rfl
theorem E_seq (b : List Nat) (x y : IC) (env : Env) (σ : Sto) : E T H b (.seq x y) env σ = match E T H b x env σ with
  | some (.norm,env',σ') => E T H b y env' σ'
  | r => r := rfl
theorem E_reg (b : List Nat) (d : Option (List (Nat × Option Nat))) (ops : List IOper) (keep : List Nat) (env : Env) (σ : Sto) : E T H b (.reg d ops keep) env σ = match evOps (RR T H) b ops env σ with
  | some (.norm,env',σ') => some (.norm,restrict keep env',σ')
  | r => if d.isSome then none else r := rfl
theorem E_ps (b : List Nat) (l : List Ps) (c : IC) (env : Env) (σ : Sto) : E T H b (.ps l c) env σ = match psE b env σ l with
  | some (env',σ') => E T H b c env' σ'
  | none => none := rfl
theorem E_psa (b : List Nat) (l : List Ps) (c : IC) (env : Env) (σ : Sto) : E T H b (.psa c l) env σ = match E T H b c env σ with
  | some (.norm,env',σ') => (match psE b env' σ' l with
   | some (env'',σ'') => some (.norm,env'',σ'')
   | none => none)
  | r => r := rfl
theorem E_cond (b : List Nat) (c : Opd) (x y : IC) (env : Env) (σ : Sto) : E T H b (.cond c x y) env σ = match ev env c with
  | some (.k (.bool true)) => E T H b x env σ
  | some (.k (.bool false)) => E T H b y env σ
  | _ => none := rfl
theorem E_block (b : List Nat) (id : Nat) (a : IC) (env : Env) (σ : Sto) : E T H b (.block id a) env σ = match E T H b a env σ with
  | some (.exit j,env',σ') => if j = id then some (.norm,env',σ') else some (.exit j,env',σ')
  | r => r := rfl
theorem E_loop (b : List Nat) (a : IC) (env : Env) (σ : Sto) : E T H b (.loop a) env σ = LO T H b a (env,σ) := rfl
theorem E_cut (b : List Nat) (a : IC) (keep : List Nat) (env : Env) (σ : Sto) : E T H b (.cut a keep) env σ = match E T H (σ.length :: b) a env σ with
  | some (.norm,env',σ') => if envBelow σ.length (restrict keep env') then some (.norm,restrict keep env',σ'.take σ.length) else none
  | some (.exit id,env',σ') => if envBelow σ.length env' then some (.exit id,env',σ'.take σ.length) else some (.exit id,env',σ')
  | some (.ret,env',σ') => if envBelow σ.length env' then some (.ret,env',σ'.take σ.length) else some (.ret,env',σ')
  | r => r := rfl
theorem E_rfunc (b : List Nat) (f : Opd) (ps keep : List Nat) (asg bd : IC) (env : Env) (σ : Sto) : E T H b (.rfunc f ps keep asg bd) env σ = match ev env f with
  | some (.fn (.func g) cap) => if g < YB then
    match RR T H b g (.yld σ.length :: cap) (σ ++ [.loop (restrict keep env) ps asg bd 0 none]) with
    | some (.ret _,σ') => match σ'[σ.length]? with
     | some (.loop env' ps' a' b' st pend) => (endLoopE st pend).bind fun e => some (e,env,σ'.set σ.length (.loop env' ps' a' b' 3 pend))
     | _ => none
    | some (.pan v,σ') => some (.pan v,env,σ')
    | none => none
   else none
  | _ => none := rfl
theorem E_exit (b : List Nat) (id : Nat) (keep : List Nat) (env : Env) (σ : Sto) : E T H b (.exit id keep) env σ = some (.exit id,restrict keep env,σ) := rfl
theorem E_ret (b : List Nat) (keep : List Nat) (env : Env) (σ : Sto) : E T H b (.ret keep) env σ = some (.ret,restrict keep env,σ) := rfl
theorem callF_eq (fn : IF) (bars : List Nat) (args : List PV) (σ : Sto) : callF T H fn bars args σ = match E T H (σ.length :: bars) fn.body (argEnvM fn.mode args) σ with
 | some (.norm,env,σ') | some (.ret,env,σ') => (ressE env σ' fn.res).bind fun vs => (leave fn.mode σ.length (pack vs) σ').bind fun p => some (.ret p.1,p.2)
 | some (.pan v,_,σ') => if below σ.length v then some (.pan v,σ'.take σ.length) else none
 | _ => none := rfl
theorem RR_of {f : FuncId} {args : List PV} {r : Out} (h : runV T H [] f args [] = some (r,[])) (hb : below.belowAll 0 args = true) (hf : f < YB) (bars : List Nat) (σ : Sto) : RR T H bars f args σ = some (r,σ) := xcall_closed h hb hf
theorem RR_open {f : FuncId} {args : List PV} (h1 : below.belowAll 0 args = false) (h2 : below.belowAll 0 (norm.normAll args) = false) (bars : List Nat) (σ : Sto) : RR T H bars f args σ = runV T H bars f args σ := xcall_open h1 h2
theorem LO_list {α S : Type} {b : List Nat} {A : IC} (l : List α) (st : Nat → S → Env × Sto) (g : List α → Nat → S → Ex × Env × Sto) (inv : Nat → S → Prop)
  (h0 : ∀ s,inv l.length s → E T H b A (st l.length s).1 (st l.length s).2 = some (g [] l.length s) ∧ (g [] l.length s).1 ≠ .norm)
  (h1 : ∀ i x r s,l[i]? = some x → x ∈ l → l.drop i = x :: r → i < l.length → inv i s →
   (E T H b A (st i s).1 (st i s).2 = some (g (x :: r) i s) ∧ (g (x :: r) i s).1 ≠ .norm) ∨
   ∃ s',E T H b A (st i s).1 (st i s).2 = some (.norm,st (i + 1) s') ∧ inv (i + 1) s' ∧ g (x :: r) i s = g r (i + 1) s') :
  ∀ (i : Nat) (s : S),i ≤ l.length → inv i s → LO T H b A (st i s) = some (g (l.drop i) i s) := by
 have key : ∀ (k i : Nat) (s : S),i + k = l.length → inv i s → LO T H b A (st i s) = some (g (l.drop i) i s) := by
  intro k
  induction k with
  | zero =>
   intro i s hi hv
   obtain rfl : i = l.length := by omega
   obtain ⟨h2,h3⟩ := h0 s hv
   rw [drop_end (Nat.le_refl _)]
   rw [show st l.length s = ((st l.length s).1,(st l.length s).2) from rfl,LO_eq,h2]
   generalize g [] l.length s = y at h3 ⊢
   obtain ⟨e,y1,y2⟩ := y
   cases e <;> first | rfl | exact absurd rfl h3
  | succ k ih =>
   intro i s hi hv
   obtain ⟨x,hx,hm,hd⟩ := get_some (l := l) (i := i) (by omega)
   rw [hd]
   rcases h1 i x _ s hx hm hd (by omega) hv with ⟨h2,h3⟩ | ⟨s',h2,h3,h4⟩
   ·rw [show st i s = ((st i s).1,(st i s).2) from rfl,LO_eq,h2]
    generalize g (x :: l.drop (i + 1)) i s = y at h3 ⊢
    obtain ⟨e,y1,y2⟩ := y
    cases e <;> first | rfl | exact absurd rfl h3
   ·rw [show st i s = ((st i s).1,(st i s).2) from rfl,LO_eq,h2,h4]
    exact ih (i + 1) s' (by omega) h3
 exact fun i s hi hv => key (l.length - i) i s (by omega) hv
end
attribute [simp] E_skip E_ps E_psa E_loop E_exit E_ret restrict unE loadE storeE takeAt putAt mkv lenE callE envBelow norm norm.normAll argEnvM argEnv argEnvR psE ressE resE leave pack IOp.bad IOp.quiet IOp.growq IOp.avs elemsOf appE sliceE fillP bslE
end
end Go.Ev


namespace Go.Ev
noncomputable section
instance (priority := low) eqDec {α : Type} : DecidableEq α := fun a b => Classical.propDecidable (a = b)
structure Dc where
 name : ByteArray
 class_ : Tm
 imp : Int
instance : Enc Dc := ⟨6,fun d => .s d.name :: (Enc.cells d.class_ ++ [.i d.imp]),fun d => by simp,fun n d => by simp,fun d => by simp [norm,norm.normAll]⟩
@[simp] theorem dc_cells (d : Dc) : Enc.cells d = [.s d.name,.i d.class_.op,.i d.class_.hd,.i d.class_.n,.sl false (encL d.class_.args),.i d.imp] := by
 show PV.s d.name :: (Enc.cells d.class_ ++ [.i d.imp]) = _
 rw [tm_cells]; rfl
@[simp] theorem allLen_dc (l : List Dc) : allLen 6 (encL l) = true := allLen_encL l
inductive Rw where
 | mk (op : Int) (name : ByteArray) (args : List Rw)
def Rw.op : Rw → Int | .mk a _ _ => a
def Rw.name : Rw → ByteArray | .mk _ a _ => a
def Rw.args : Rw → List Rw | .mk _ _ a => a
@[simp] theorem Rw.op_mk (a : Int) (b : ByteArray) (l : List Rw) : (Rw.mk a b l).op = a := rfl
@[simp] theorem Rw.name_mk (a : Int) (b : ByteArray) (l : List Rw) : (Rw.mk a b l).name = b := rfl
@[simp] theorem Rw.args_mk (a : Int) (b : ByteArray) (l : List Rw) : (Rw.mk a b l).args = l := rfl
@[simp] theorem Rw.eta : ∀ t : Rw,Rw.mk t.op t.name t.args = t | .mk _ _ _ => rfl
mutual
def Rw.cells : Rw → List PV
 | .mk op nm args => [.i op,.s nm,.sl false (Rw.cellsL args)]
def Rw.cellsL : List Rw → List (List PV)
 | [] => []
 | t :: r => Rw.cells t :: Rw.cellsL r
end
theorem Rw.cellsL_map (l : List Rw) : Rw.cellsL l = l.map Rw.cells := by
 induction l with
 | nil => rfl
 | cons t r ih => simp [Rw.cellsL,ih]
theorem Rw.ind {p : Rw → Prop} (h : ∀ t : Rw,(∀ x ∈ t.args,p x) → p t) : ∀ t,p t
 | .mk op nm args => h (.mk op nm args) fun t ht => Rw.ind h t
termination_by t => SizeOf.sizeOf t
decreasing_by
 simp at ht
 have := List.sizeOf_lt_of_mem ht
 simp; omega
mutual
theorem Rw.below_cells (n : Nat) : ∀ t : Rw,below.belowAll n t.cells = true
 | .mk op hd args => by simp [Rw.cells,Rw.below_cellsL n args]
theorem Rw.below_cellsL (n : Nat) : ∀ l : List Rw,below.belowEs n (Rw.cellsL l) = true
 | [] => rfl
 | t :: r => by simp [Rw.cellsL,Rw.below_cells n t,Rw.below_cellsL n r]
end
instance : Enc Rw := ⟨3,Rw.cells,fun t => by cases t; rfl,Rw.below_cells,fun t => by cases t; simp [Rw.cells,norm.normAll,norm]⟩
theorem Rw.cellsL_eq (l : List Rw) : Rw.cellsL l = encL l := Rw.cellsL_map l
@[simp] theorem rw_cells (t : Rw) : Enc.cells t = [.i t.op,.s t.name,.sl false (encL t.args)] := by
 cases t; rw [← Rw.cellsL_eq]; rfl
def Rw.enc (t : Rw) : PV := .agg (Enc.cells t)
theorem rw_fold (a : Int) (b : ByteArray) (l : List Rw) : PV.agg [.i a,.s b,.sl false (encL l)] = (Rw.mk a b l).enc := by simp [Rw.enc]
theorem rw_fold' (t : Rw) : PV.agg [.i t.op,.s t.name,.sl false (encL t.args)] = t.enc := by simp [Rw.enc]
@[simp] theorem below_rw (n : Nat) (t : Rw) : below n t.enc = true := by rw [Rw.enc,b_agg,Enc.below]
@[simp] theorem norm_rw (t : Rw) : norm t.enc = t.enc := by rw [Rw.enc,norm,Enc.nrm]
@[simp] theorem okc_rw (t : Rw) : okc t.enc = true := rfl
@[simp] theorem cells_rw (t : Rw) : Go.Ev.cells t.enc = [.i t.op,.s t.name,.sl false (encL t.args)] := by rw [Rw.enc,cells_agg,rw_cells]
@[simp] theorem allLen_rw (l : List Rw) : allLen 3 (encL l) = true := allLen_encL l
inductive Pt where
 | mk (op : Int) (sign name : ByteArray) (n : Int) (raw : Rw) (parts : List Pt)
def Pt.op : Pt → Int | .mk a _ _ _ _ _ => a
def Pt.sign : Pt → ByteArray | .mk _ a _ _ _ _ => a
def Pt.name : Pt → ByteArray | .mk _ _ a _ _ _ => a
def Pt.n : Pt → Int | .mk _ _ _ a _ _ => a
def Pt.raw : Pt → Rw | .mk _ _ _ _ a _ => a
def Pt.parts : Pt → List Pt | .mk _ _ _ _ _ a => a
@[simp] theorem Pt.op_mk (a b c d e f) : (Pt.mk a b c d e f).op = a := rfl
@[simp] theorem Pt.sign_mk (a b c d e f) : (Pt.mk a b c d e f).sign = b := rfl
@[simp] theorem Pt.name_mk (a b c d e f) : (Pt.mk a b c d e f).name = c := rfl
@[simp] theorem Pt.n_mk (a b c d e f) : (Pt.mk a b c d e f).n = d := rfl
@[simp] theorem Pt.raw_mk (a b c d e f) : (Pt.mk a b c d e f).raw = e := rfl
@[simp] theorem Pt.parts_mk (a b c d e f) : (Pt.mk a b c d e f).parts = f := rfl
mutual
def Pt.cells : Pt → List PV
 | .mk op sg nm n raw ps => [.i op,.s sg,.s nm,.i n] ++ Enc.cells raw ++ [.sl false (Pt.cellsL ps)]
def Pt.cellsL : List Pt → List (List PV)
 | [] => []
 | t :: r => Pt.cells t :: Pt.cellsL r
end
theorem Pt.cellsL_map (l : List Pt) : Pt.cellsL l = l.map Pt.cells := by
 induction l with
 | nil => rfl
 | cons t r ih => simp [Pt.cellsL,ih]
theorem Pt.ind {p : Pt → Prop} (h : ∀ t : Pt,(∀ x ∈ t.parts,p x) → p t) : ∀ t,p t
 | .mk a b c d e f => h (.mk a b c d e f) fun t ht => Pt.ind h t
termination_by t => SizeOf.sizeOf t
decreasing_by
 simp at ht
 have := List.sizeOf_lt_of_mem ht
 simp; omega
mutual
theorem Pt.below_cells (n : Nat) : ∀ t : Pt,below.belowAll n t.cells = true
 | .mk a b c d e f => by simp [Pt.cells,Pt.below_cellsL n f]
theorem Pt.below_cellsL (n : Nat) : ∀ l : List Pt,below.belowEs n (Pt.cellsL l) = true
 | [] => rfl
 | t :: r => by simp [Pt.cellsL,Pt.below_cells n t,Pt.below_cellsL n r]
end
instance : Enc Pt := ⟨8,Pt.cells,fun t => by cases t; simp [Pt.cells],Pt.below_cells,fun t => by cases t; simp [Pt.cells,norm.normAll,norm]⟩
theorem Pt.cellsL_eq (l : List Pt) : Pt.cellsL l = encL l := Pt.cellsL_map l
@[simp] theorem pt_cells (t : Pt) : Enc.cells t = [.i t.op,.s t.sign,.s t.name,.i t.n,.i t.raw.op,.s t.raw.name,.sl false (encL t.raw.args),.sl false (encL t.parts)] := by
 cases t
 show Pt.cells _ = _
 simp [Pt.cells,Pt.cellsL_eq]
def Pt.enc (t : Pt) : PV := .agg (Enc.cells t)
@[simp] theorem below_pt (n : Nat) (t : Pt) : below n t.enc = true := by rw [Pt.enc,b_agg,Enc.below]
@[simp] theorem norm_pt (t : Pt) : norm t.enc = t.enc := by rw [Pt.enc,norm,Enc.nrm]
@[simp] theorem okc_pt (t : Pt) : okc t.enc = true := rfl
@[simp] theorem cells_pt (t : Pt) : Go.Ev.cells t.enc = [.i t.op,.s t.sign,.s t.name,.i t.n,.i t.raw.op,.s t.raw.name,.sl false (encL t.raw.args),.sl false (encL t.parts)] := by rw [Pt.enc,cells_agg,pt_cells]
@[simp] theorem allLen_pt (l : List Pt) : allLen 8 (encL l) = true := allLen_encL l
structure It_ where
 word : ByteArray
 name : ByteArray
 raw : Rw
 parts : List Pt
structure Dv where
 item : It_
 after : Int
instance : Enc Dv := ⟨7,fun d => [.s d.item.word,.s d.item.name,.i d.item.raw.op,.s d.item.raw.name,.sl false (encL d.item.raw.args),.sl false (encL d.item.parts),.i d.after],fun d => by simp,fun n d => by simp,fun d => by simp [norm,norm.normAll]⟩
@[simp] theorem dv_cells (d : Dv) : Enc.cells d = [.s d.item.word,.s d.item.name,.i d.item.raw.op,.s d.item.raw.name,.sl false (encL d.item.raw.args),.sl false (encL d.item.parts),.i d.after] := rfl
@[simp] theorem allLen_dv (l : List Dv) : allLen 7 (encL l) = true := allLen_encL l
def It_.cells (x : It_) : List PV := [.s x.word,.s x.name,.i x.raw.op,.s x.raw.name,.sl false (encL x.raw.args),.sl false (encL x.parts)]
def Dc.enc (t : Dc) : PV := .agg (Enc.cells t)
def Dv.enc (t : Dv) : PV := .agg (Enc.cells t)
def It_.enc (t : It_) : PV := .agg t.cells
@[simp] theorem below_dc (n : Nat) (t : Dc) : below n t.enc = true := by rw [Dc.enc,b_agg,Enc.below]
@[simp] theorem norm_dc (t : Dc) : norm t.enc = t.enc := by rw [Dc.enc,norm,Enc.nrm]
@[simp] theorem okc_dc (t : Dc) : okc t.enc = true := rfl
@[simp] theorem cells_dc (d : Dc) : Go.Ev.cells d.enc = [.s d.name,.i d.class_.op,.i d.class_.hd,.i d.class_.n,.sl false (encL d.class_.args),.i d.imp] := by rw [Dc.enc,cells_agg,dc_cells]
theorem dc_fold' (d : Dc) : PV.agg [.s d.name,.i d.class_.op,.i d.class_.hd,.i d.class_.n,.sl false (encL d.class_.args),.i d.imp] = d.enc := by simp [Dc.enc]
@[simp] theorem below_dv (n : Nat) (t : Dv) : below n t.enc = true := by rw [Dv.enc,b_agg,Enc.below]
@[simp] theorem norm_dv (t : Dv) : norm t.enc = t.enc := by rw [Dv.enc,norm,Enc.nrm]
@[simp] theorem okc_dv (t : Dv) : okc t.enc = true := rfl
@[simp] theorem cells_dv (d : Dv) : Go.Ev.cells d.enc = [.s d.item.word,.s d.item.name,.i d.item.raw.op,.s d.item.raw.name,.sl false (encL d.item.raw.args),.sl false (encL d.item.parts),.i d.after] := by rw [Dv.enc,cells_agg,dv_cells]
@[simp] theorem below_it (n : Nat) (t : It_) : below n t.enc = true := by simp [It_.enc,It_.cells]
@[simp] theorem norm_it (t : It_) : norm t.enc = t.enc := by simp [It_.enc,It_.cells,norm,norm.normAll]
@[simp] theorem okc_it (t : It_) : okc t.enc = true := rfl
@[simp] theorem cells_it (x : It_) : Go.Ev.cells x.enc = [.s x.word,.s x.name,.i x.raw.op,.s x.raw.name,.sl false (encL x.raw.args),.sl false (encL x.parts)] := by rw [It_.enc,cells_agg]; rfl
structure Ld where
 sig : List Dc
 words : List Dv
def Ld.enc (l : Ld) : PV := .agg [.sl false (encL l.sig),.sl false (encL l.words)]
@[simp] theorem below_ld (n : Nat) (t : Ld) : below n t.enc = true := by simp [Ld.enc]
@[simp] theorem norm_ld (t : Ld) : norm t.enc = t.enc := by simp [Ld.enc,norm,norm.normAll]
@[simp] theorem okc_ld (t : Ld) : okc t.enc = true := rfl
@[simp] theorem cells_ld (l : Ld) : Go.Ev.cells l.enc = [.sl false (encL l.sig),.sl false (encL l.words)] := rfl
end
end Go.Ev


namespace Go.Ev
def Holds (P : Program) (t : TypeId) {α : Type} [Enc α] (ok : α → Prop) (n : Nat) : Prop := ∀ cs,HasTy P n t cs → ∃ x : α,cs = Enc.cells x ∧ ok x
section
variable {P : Program} {t e : TypeId}
theorem dec_int (u : P.underlying t = some (.int .i64)) (n : Nat) : Holds P t I64 n := by
 intro cs h
 cases n with
 | zero => simp [HasTy] at h
 | succ n =>
  unfold HasTy at h
  rw [u] at h
  simp only at h
  obtain ⟨m,rfl,hm⟩ := h
  refine ⟨m,rfl,?_⟩
  simp [Lit.wf,IntKind.min,IntKind.max,IntKind.signed,IntKind.bits] at hm
  unfold I64
  omega
theorem dec_str (u : P.underlying t = some .string) (n : Nat) : Holds P t (fun s : ByteArray => s.size ≤ maxLen) n := by
 intro cs h
 cases n with
 | zero => simp [HasTy] at h
 | succ n =>
  unfold HasTy at h
  rw [u] at h
  simp only at h
  obtain ⟨s,rfl,hs⟩ := h
  exact ⟨s,rfl,hs⟩
theorem dec_slice {α : Type} [Enc α] {ok : α → Prop} (u : P.underlying t = some (.slice e)) (n : Nat) (ih : ∀ m,m < n → Holds P e ok m) {cs : List PV} (h : HasTy P n t cs) :
  ∃ l : List α,cs = [.sl false (encL l)] ∧ l.length ≤ maxLen ∧ ∀ x ∈ l,ok x := by
 cases n with
 | zero => simp [HasTy] at h
 | succ n =>
  unfold HasTy at h
  rw [u] at h
  simp only at h
  obtain ⟨es,rfl,hl,hes⟩ := h
  have : ∀ es : List (List PV),(∀ x ∈ es,HasTy P n e x) → ∃ l : List α,es = encL l ∧ ∀ t ∈ l,ok t := by
   intro es
   induction es with
   | nil => intro _; exact ⟨[],rfl,by simp⟩
   | cons x r ihr =>
    intro h
    obtain ⟨a,rfl,ha⟩ := ih n (by omega) x (h x (by simp))
    obtain ⟨l,rfl,hl⟩ := ihr fun y hy => h y (by simp [hy])
    exact ⟨a :: l,rfl,by simp [ha]; exact hl⟩
  obtain ⟨l,rfl,hok⟩ := this es hes
  exact ⟨l,rfl,by simpa using hl,hok⟩
def Tm.Ok : Tm → Prop := fun t => I64 t.op ∧ I64 t.hd ∧ I64 t.n ∧ t.args.length ≤ maxLen
inductive Tm.ok : Tm → Prop
 | mk {t : Tm} (h : Tm.Ok t) (ha : ∀ x ∈ t.args,Tm.ok x) : Tm.ok t
theorem Tm.ok.here {t : Tm} (h : t.ok) : t.Ok := by cases h; assumption
theorem Tm.ok.sub {t : Tm} (h : t.ok) : ∀ x ∈ t.args,x.ok := by cases h; assumption
theorem dec_tm {ti ts : TypeId} {f0 f1 f2 f3 : Field} (ui : P.underlying ti = some (.int .i64)) (us : P.underlying ts = some (.slice t)) (u : P.underlying t = some (.struct #[f0,f1,f2,f3])) (e0 : f0.type = ti) (e1 : f1.type = ti) (e2 : f2.type = ti) (e3 : f3.type = ts) (n : Nat) : Holds P t Tm.ok n := by
 induction n using Nat.strongRecOn with
 | _ n ih =>
  intro cs h
  cases n with
  | zero => simp [HasTy] at h
  | succ n =>
   unfold HasTy at h
   rw [u] at h
   simp only [List.map_cons,List.map_nil,Tys,e0,e1,e2,e3] at h
   obtain ⟨a,b,rfl,ha,b1,b2,rfl,hb,c1,c2,rfl,hc,d1,d2,rfl,hd,rfl⟩ := h
   obtain ⟨op,rfl,h1⟩ := dec_int ui _ _ ha
   obtain ⟨hdd,rfl,h2⟩ := dec_int ui _ _ hb
   obtain ⟨m,rfl,h3⟩ := dec_int ui _ _ hc
   obtain ⟨l,rfl,hl,hok⟩ := dec_slice us n (fun m hm => ih m (by omega)) hd
   exact ⟨.mk op hdd m l,by simp,⟨⟨h1,h2,h3,hl⟩,hok⟩⟩
inductive Rw.ok : Rw → Prop
 | mk {t : Rw} (h0 : I64 t.op) (h1 : t.name.size ≤ maxLen) (h2 : t.args.length ≤ maxLen) (ha : ∀ x ∈ t.args,Rw.ok x) : Rw.ok t
theorem Rw.ok.len {t : Rw} (h : t.ok) : t.args.length ≤ maxLen := by cases h; assumption
theorem Rw.ok.sub {t : Rw} (h : t.ok) : ∀ x ∈ t.args,x.ok := by cases h; assumption
inductive Pt.ok : Pt → Prop
 | mk {t : Pt} (h0 : I64 t.op) (h1 : t.sign.size ≤ maxLen) (h2 : t.name.size ≤ maxLen) (h3 : I64 t.n) (h4 : t.raw.ok) (h5 : t.parts.length ≤ maxLen) (ha : ∀ x ∈ t.parts,Pt.ok x) : Pt.ok t
theorem Pt.ok.len {t : Pt} (h : t.ok) : t.parts.length ≤ maxLen := by cases h; assumption
theorem Pt.ok.rw {t : Pt} (h : t.ok) : t.raw.ok := by cases h; assumption
theorem Pt.ok.sub {t : Pt} (h : t.ok) : ∀ x ∈ t.parts,x.ok := by cases h; assumption
def Dc.ok (d : Dc) : Prop := d.name.size ≤ maxLen ∧ d.class_.ok ∧ I64 d.imp
theorem dec_dc {ti tn tt : TypeId} {f0 f1 f2 : Field} (ui : P.underlying ti = some (.int .i64)) (un : P.underlying tn = some .string) (ut : ∀ n,Holds P tt Tm.ok n) (u : P.underlying t = some (.struct #[f0,f1,f2])) (e0 : f0.type = tn) (e1 : f1.type = tt) (e2 : f2.type = ti) (n : Nat) : Holds P t Dc.ok n := by
 intro cs h
 cases n with
 | zero => simp [HasTy] at h
 | succ n =>
  unfold HasTy at h
  rw [u] at h
  simp only [List.map_cons,List.map_nil,Tys,e0,e1,e2] at h
  obtain ⟨a1,_,rfl,h1,a2,_,rfl,h2,a3,_,rfl,h3,rfl⟩ := h
  obtain ⟨nm,rfl,k1⟩ := dec_str un _ _ h1
  obtain ⟨c,rfl,k2⟩ := ut _ _ h2
  obtain ⟨i,rfl,k3⟩ := dec_int ui _ _ h3
  exact ⟨⟨nm,c,i⟩,by simp,k1,k2,k3⟩
def It_.ok (x : It_) : Prop := x.word.size ≤ maxLen ∧ x.name.size ≤ maxLen ∧ x.raw.ok ∧ x.parts.length ≤ maxLen ∧ ∀ p ∈ x.parts,p.ok
def Dv.ok (d : Dv) : Prop := d.item.ok ∧ I64 d.after
def Ld.ok (l : Ld) : Prop := l.sig.length ≤ maxLen ∧ (∀ d ∈ l.sig,d.ok) ∧ l.words.length ≤ maxLen ∧ ∀ d ∈ l.words,d.ok
end
end Go.Ev


namespace Go.Ev
noncomputable section
abbrev KT (α : Type) := Ex → Env → Sto → Option α
def bX {α : Type} (r : Option (Ex × Env × Sto)) (K : KT α) : Option α := match r with
 | some (x,e,s) => K x e s
 | none => none
@[simp] theorem bX_some {α : Type} (x e s) (K : KT α) : bX (some (x,e,s)) K = K x e s := rfl
section
variable {T : FuncId → Option IF} {H : Hook} {α : Type}
def EK (T : FuncId → Option IF) (H : Hook) (b : List Nat) (c : IC) (env : Env) (σ : Sto) (K : KT α) : Option α := bX (E T H b c env σ) K
def OK (T : FuncId → Option IF) (H : Hook) (b : List Nat) (l : List IOper) (env : Env) (σ : Sto) (K : KT α) : Option α := bX (evOps (RR T H) b l env σ) K
def kEnd : KT (Ex × Env × Sto) := fun x e s => some (x,e,s)
@[simp] theorem kEnd_app (x e s) : kEnd x e s = some (x,e,s) := rfl
theorem E_EK (b : List Nat) (c : IC) (env : Env) (σ : Sto) : E T H b c env σ = EK T H b c env σ kEnd := by
 unfold EK bX kEnd
 rcases E T H b c env σ with _ | ⟨x,e,s⟩ <;> rfl
def kSeq (T : FuncId → Option IF) (H : Hook) (b : List Nat) (y : IC) (K : KT α) : KT α := fun x e s => match x with
 | .norm => EK T H b y e s K
 | x => K x e s
@[simp] theorem kSeq_norm (b y e s) (K : KT α) : kSeq T H b y K .norm e s = EK T H b y e s K := rfl
@[simp] theorem kSeq_ret (b y e s) (K : KT α) : kSeq T H b y K .ret e s = K .ret e s := rfl
@[simp] theorem kSeq_exit (b y n e s) (K : KT α) : kSeq T H b y K (.exit n) e s = K (.exit n) e s := rfl
@[simp] theorem kSeq_pan (b y v e s) (K : KT α) : kSeq T H b y K (.pan v) e s = K (.pan v) e s := rfl
def kReg (keep : List Nat) (K : KT α) : KT α := fun x e s => match x with
 | .norm => K .norm (restrict keep e) s
 | x => K x e s
@[simp] theorem kReg_norm (k e s) (K : KT α) : kReg k K .norm e s = K .norm (restrict k e) s := rfl
@[simp] theorem kReg_pan (k v e s) (K : KT α) : kReg k K (.pan v) e s = K (.pan v) e s := rfl
def kRegd (keep : List Nat) (K : KT α) : KT α := fun x e s => match x with
 | .norm => K .norm (restrict keep e) s
 | _ => none
@[simp] theorem kRegd_norm (k e s) (K : KT α) : kRegd k K .norm e s = K .norm (restrict k e) s := rfl
def kBlock (id : Nat) (K : KT α) : KT α := fun x e s => match x with
 | .exit j => if j = id then K .norm e s else K (.exit j) e s
 | x => K x e s
@[simp] theorem kBlock_norm (k e s) (K : KT α) : kBlock k K .norm e s = K .norm e s := rfl
@[simp] theorem kBlock_ret (k e s) (K : KT α) : kBlock k K .ret e s = K .ret e s := rfl
@[simp] theorem kBlock_pan (k v e s) (K : KT α) : kBlock k K (.pan v) e s = K (.pan v) e s := rfl
@[simp] theorem kBlock_exit (k j e s) (K : KT α) : kBlock k K (.exit j) e s = if j = k then K .norm e s else K (.exit j) e s := rfl
def kCut (n : Nat) (keep : List Nat) (K : KT α) : KT α := fun x e s => match x with
  | .norm => if envBelow n (restrict keep e) then K .norm (restrict keep e) (s.take n) else none
  | .exit id => if envBelow n e then K (.exit id) e (s.take n) else K (.exit id) e s
  | .ret => if envBelow n e then K .ret e (s.take n) else K .ret e s
  | .pan v => K (.pan v) e s
@[simp] theorem kCut_norm (n k e s) (K : KT α) : kCut n k K .norm e s = if envBelow n (restrict k e) then K .norm (restrict k e) (s.take n) else none := rfl
@[simp] theorem kCut_exit (n k j e s) (K : KT α) : kCut n k K (.exit j) e s = if envBelow n e then K (.exit j) e (s.take n) else K (.exit j) e s := rfl
@[simp] theorem kCut_ret (n k e s) (K : KT α) : kCut n k K .ret e s = if envBelow n e then K .ret e (s.take n) else K .ret e s := rfl
@[simp] theorem kCut_pan (n k v e s) (K : KT α) : kCut n k K (.pan v) e s = K (.pan v) e s := rfl
def kFin (res : List ResV) (mode n : Nat) : KT (Out × Sto) := fun x e s => match x with
 | .norm => (ressE e s res).bind fun vs => (leave mode n (pack vs) s).bind fun p => some (.ret p.1,p.2)
 | .ret => (ressE e s res).bind fun vs => (leave mode n (pack vs) s).bind fun p => some (.ret p.1,p.2)
 | .pan v => if below n v then some (.pan v,s.take n) else none
 | .exit _ => none
@[simp] theorem kFin_norm (r m n e s) : kFin r m n .norm e s = (ressE e s r).bind fun vs => (leave m n (pack vs) s).bind fun p => some (.ret p.1,p.2) := rfl
@[simp] theorem kFin_ret (r m n e s) : kFin r m n .ret e s = (ressE e s r).bind fun vs => (leave m n (pack vs) s).bind fun p => some (.ret p.1,p.2) := rfl
@[simp] theorem kFin_pan (r m n v e s) : kFin r m n (.pan v) e s = if below n v then some (.pan v,s.take n) else none := rfl
theorem X_callF (fn : IF) (bars : List Nat) (args : List PV) (σ : Sto) : callF T H fn bars args σ = EK T H (σ.length :: bars) fn.body (argEnvM fn.mode args) σ (kFin fn.res fn.mode σ.length) := by
 rw [callF_eq]; unfold EK bX
 generalize E T H (σ.length :: bars) fn.body (argEnvM fn.mode args) σ = r
 rcases r with _ | ⟨x,e,s⟩
 ·rfl
 ·cases x <;> rfl
def kIf (T : FuncId → Option IF) (H : Hook) (v : Option PV) (b : List Nat) (x y : IC) (env : Env) (σ : Sto) (K : KT α) : Option α := match v with
 | some (.k (.bool true)) => EK T H b x env σ K
 | some (.k (.bool false)) => EK T H b y env σ K
 | _ => none
@[simp] theorem kIf_t (b x y env σ) (K : KT α) : kIf T H (some (.k (.bool true))) b x y env σ K = EK T H b x env σ K := rfl
@[simp] theorem kIf_f (b x y env σ) (K : KT α) : kIf T H (some (.k (.bool false))) b x y env σ K = EK T H b y env σ K := rfl
theorem kIf_split {c : Bool} {b x y env σ} {K : KT α} {R : Option α} (h1 : c = true → EK T H b x env σ K = R) (h2 : c = false → EK T H b y env σ K = R) : kIf T H (some (.k (.bool c))) b x y env σ K = R := by
 cases c
 ·exact h2 rfl
 ·exact h1 rfl
theorem K_skip (b env σ) (K : KT α) : EK T H b .skip env σ K = K .norm env σ := rfl
theorem K_exit (b id keep env σ) (K : KT α) : EK T H b (.exit id keep) env σ K = K (.exit id) (restrict keep env) σ := rfl
theorem K_ret (b keep env σ) (K : KT α) : EK T H b (.ret keep) env σ K = K .ret (restrict keep env) σ := rfl
theorem K_seq (b : List Nat) (x y : IC) (env : Env) (σ : Sto) (K : KT α) : EK T H b (.seq x y) env σ K = EK T H b x env σ (kSeq T H b y K) := by
 unfold EK; rw [E_seq]
 generalize E T H b x env σ = r
 rcases r with _ | ⟨z,e,s⟩
 ·rfl
 ·cases z <;> rfl
theorem K_reg (b ops keep env σ) (K : KT α) : EK T H b (.reg none ops keep) env σ K = OK T H b ops env σ (kReg keep K) := by
 unfold EK OK; rw [E_reg]
 generalize evOps (RR T H) b ops env σ = r
 rcases r with _ | ⟨z,e,s⟩
 ·rfl
 ·cases z <;> rfl
theorem K_regd (b d ops keep env σ) (K : KT α) : EK T H b (.reg (some d) ops keep) env σ K = OK T H b ops env σ (kRegd keep K) := by
 unfold EK OK; rw [E_reg]
 generalize evOps (RR T H) b ops env σ = r
 rcases r with _ | ⟨z,e,s⟩
 ·rfl
 ·cases z <;> rfl
theorem K_dr (b n ops keep env σ) (K : KT α) : EK T H b (.reg (dr n) ops keep) env σ K = OK T H b ops env σ (kRegd keep K) := K_regd ..
theorem K_cond (b c x y env σ) (K : KT α) : EK T H b (.cond c x y) env σ K = kIf T H (ev env c) b x y env σ K := by
 unfold EK kIf; rw [E_cond]
 generalize ev env c = r
 rcases r with _ | v
 ·rfl
 cases v with
 | k u => cases u <;> try rfl
          rename_i x; cases x <;> rfl
 | _ => rfl
theorem K_block (b id a env σ) (K : KT α) : EK T H b (.block id a) env σ K = EK T H b a env σ (kBlock id K) := by
 unfold EK; rw [E_block]
 generalize E T H b a env σ = r
 rcases r with _ | ⟨z,e,s⟩
 ·rfl
 cases z with
 | exit j =>
  show bX (if j = id then _ else _) K = if j = id then _ else _
  split <;> rfl
 | _ => rfl
theorem K_cut (b a keep env σ) (K : KT α) : EK T H b (.cut a keep) env σ K = EK T H (σ.length :: b) a env σ (kCut σ.length keep K) := by
 unfold EK; rw [E_cut]
 generalize E T H (σ.length :: b) a env σ = r
 rcases r with _ | ⟨z,e,s⟩
 ·rfl
 cases z with
 | norm => show bX (if _ then _ else _) K = if _ then _ else _
           split <;> rfl
 | exit j => show bX (if _ then _ else _) K = if _ then _ else _
             split <;> rfl
 | ret => show bX (if _ then _ else _) K = if _ then _ else _
          split <;> rfl
 | pan v => rfl
theorem K_loop (b a env σ) (K : KT α) : EK T H b (.loop a) env σ K = bX (LO T H b a (env,σ)) K := rfl
def kPs (T : FuncId → Option IF) (H : Hook) (r : Option (Env × Sto)) (b : List Nat) (c : IC) (K : KT α) : Option α := match r with
 | some (e,s) => EK T H b c e s K
 | none => none
@[simp] theorem kPs_some (e s b c) (K : KT α) : kPs T H (some (e,s)) b c K = EK T H b c e s K := rfl
theorem K_ps (b l c env σ) (K : KT α) : EK T H b (.ps l c) env σ K = kPs T H (psE b env σ l) b c K := by
 unfold EK kPs; rw [E_ps]
 rcases psE b env σ l with _ | ⟨e,s⟩ <;> rfl
def kPsa (b : List Nat) (l : List Ps) (K : KT α) : KT α := fun x e s => match x with
 | .norm => match psE b e s l with
  | some (e',s') => K .norm e' s'
  | none => none
 | x => K x e s
@[simp] theorem kPsa_norm (b l e s) (K : KT α) : kPsa b l K .norm e s = match psE b e s l with
  | some (e',s') => K .norm e' s'
  | none => none := rfl
@[simp] theorem kPsa_ret (b l e s) (K : KT α) : kPsa b l K .ret e s = K .ret e s := rfl
@[simp] theorem kPsa_exit (b l n e s) (K : KT α) : kPsa b l K (.exit n) e s = K (.exit n) e s := rfl
@[simp] theorem kPsa_pan (b l v e s) (K : KT α) : kPsa b l K (.pan v) e s = K (.pan v) e s := rfl
theorem K_psa (b l c env σ) (K : KT α) : EK T H b (.psa c l) env σ K = EK T H b c env σ (kPsa b l K) := by
 unfold EK; rw [E_psa]
 generalize E T H b c env σ = r
 rcases r with _ | ⟨z,e,s⟩
 ·rfl
 cases z with
 | norm =>
  show bX (match psE b e s l with | some (e',s') => _ | none => none) K = match psE b e s l with | some (e',s') => _ | none => none
  rcases psE b e s l with _ | ⟨e',s'⟩ <;> rfl
 | _ => rfl
def kCl (T : FuncId → Option IF) (H : Hook) (r : Option (Out × Sto)) (o : IOp) (d : Option Nat) (b : List Nat) (l : List IOper) (env : Env) (σ : Sto) (K : KT α) : Option α := match r with
 | some (.ret v,σ') => open Classical in if o.bad env σ σ' then none else OK T H b l (putE env d v) σ' K
 | some (.pan v,σ') => K (.pan v) env σ'
 | none => none
def kO (T : FuncId → Option IF) (H : Hook) (r : Option OpR) (o : IOp) (d : Option Nat) (b : List Nat) (l : List IOper) (env : Env) (K : KT α) : Option α := match r with
 | some (.val v σ) => OK T H b l (putE env d v) σ K
 | some (.call f args σ) => kCl T H (RR T H b f args σ) o d b l env σ K
 | some (.pan v σ) => K (.pan v) env σ
 | _ => none
@[simp] theorem kO_val (v σ o d b l env) (K : KT α) : kO T H (some (.val v σ)) o d b l env K = OK T H b l (putE env d v) σ K := rfl
@[simp] theorem kO_call (f args σ o d b l env) (K : KT α) : kO T H (some (.call f args σ)) o d b l env K = kCl T H (RR T H b f args σ) o d b l env σ K := rfl
@[simp] theorem kO_pan (v σ o d b l env) (K : KT α) : kO T H (some (.pan v σ)) o d b l env K = K (.pan v) env σ := rfl
@[simp] theorem kCl_ret (v σ' o d b l env σ) (K : KT α) : kCl T H (some (.ret v,σ')) o d b l env σ K = open Classical in if o.bad env σ σ' then none else OK T H b l (putE env d v) σ' K := rfl
@[simp] theorem kCl_pan (v σ' o d b l env σ) (K : KT α) : kCl T H (some (.pan v,σ')) o d b l env σ K = K (.pan v) env σ' := rfl
theorem kO_if {p : Prop} [Decidable p] {r r' : Option OpR} {o d b l env} {K : KT α} {R : Option α} (hp : p) (h : kO T H r o d b l env K = R) : kO T H (if p then r else r') o d b l env K = R := by rw [if_pos hp]; exact h
theorem kO_split {p : Prop} [Decidable p] {r r' : Option OpR} {o d b l env} {K : KT α} {R : Option α} (h1 : p → kO T H r o d b l env K = R) (h2 : ¬ p → kO T H r' o d b l env K = R) : kO T H (if p then r else r') o d b l env K = R := by
 split
 ·exact h1 ‹_›
 ·exact h2 ‹_›
theorem kCl_split {p : Prop} [Decidable p] {r r' : Option (Out × Sto)} {o d b l env σ} {K : KT α} {R : Option α} (h1 : p → kCl T H r o d b l env σ K = R) (h2 : ¬ p → kCl T H r' o d b l env σ K = R) : kCl T H (if p then r else r') o d b l env σ K = R := by
 split
 ·exact h1 ‹_›
 ·exact h2 ‹_›
def kG (T : FuncId → Option IF) (H : Hook) (g : Option PV) (c : Bool) (o : IOp) (d : Option Nat) (b : List Nat) (l : List IOper) (env : Env) (σ : Sto) (K : KT α) : Option α := match g with
 | some (.k (.bool x)) => if c = x then kO T H (opE b env σ o) o d b l env K else OK T H b l (putE env d (.tup [])) σ K
 | some (.tup []) => OK T H b l (putE env d (.tup [])) σ K
 | _ => none
@[simp] theorem kG_tt (o d b l env σ) (K : KT α) : kG T H (some (.k (.bool true))) true o d b l env σ K = kO T H (opE b env σ o) o d b l env K := rfl
@[simp] theorem kG_ff (o d b l env σ) (K : KT α) : kG T H (some (.k (.bool false))) false o d b l env σ K = kO T H (opE b env σ o) o d b l env K := rfl
@[simp] theorem kG_tf (o d b l env σ) (K : KT α) : kG T H (some (.k (.bool true))) false o d b l env σ K = OK T H b l (putE env d (.tup [])) σ K := rfl
@[simp] theorem kG_ft (o d b l env σ) (K : KT α) : kG T H (some (.k (.bool false))) true o d b l env σ K = OK T H b l (putE env d (.tup [])) σ K := rfl
@[simp] theorem kG_tup (c o d b l env σ) (K : KT α) : kG T H (some (.tup [])) c o d b l env σ K = OK T H b l (putE env d (.tup [])) σ K := rfl
theorem kG_split {x : Bool} {c o d b l env σ} {K : KT α} {R : Option α} (h1 : x = true → kG T H (some (.k (.bool true))) c o d b l env σ K = R) (h2 : x = false → kG T H (some (.k (.bool false))) c o d b l env σ K = R) : kG T H (some (.k (.bool x))) c o d b l env σ K = R := by
 cases x
 ·exact h2 rfl
 ·exact h1 rfl
theorem K_op0 (b env σ) (K : KT α) : OK T H b [] env σ K = K .norm env σ := rfl
theorem K_op (b d o l env σ) (K : KT α) : OK T H b (⟨d,o,none⟩ :: l) env σ K = kO T H (opE b env σ o) o d b l env K := by
 unfold OK
 rw [evOps]
 unfold evOp1 kO kCl OK bX
 simp only [wantedE]
 rcases opE b env σ o with _ | x
 ·rfl
 cases x with
 | call f args σ' =>
  simp only []
  rcases RR T H b f args σ' with _ | ⟨v,s⟩
  ·rfl
  cases v with
  | ret v =>
   by_cases hb : o.bad env σ' s
   ·simp only [if_pos hb]
   ·simp only [if_neg hb]
  | pan v => rfl
 | _ => rfl
theorem K_opg (b d o s c l env σ) (K : KT α) : OK T H b (⟨d,o,some (s,c)⟩ :: l) env σ K = kG T H (look env s) c o d b l env σ K := by
 have key : ∀ w,wantedE env (some (s,c)) = w → OK T H b (⟨d,o,some (s,c)⟩ :: l) env σ K = match w with
   | some true => kO T H (opE b env σ o) o d b l env K
   | some false => OK T H b l (putE env d (.tup [])) σ K
   | none => none := by
  intro w hw
  rw [← K_op]
  unfold OK
  rw [evOps,evOps]
  unfold evOp1
  simp only [hw]
  rcases w with _ | w
  ·rfl
  cases w <;> simp [wantedE]
 rw [key _ rfl]
 unfold kG
 simp only [wantedE]
 rcases look env s with _ | v
 ·rfl
 cases v with
 | k u => cases u <;> try rfl
          rename_i x; cases x <;> cases c <;> rfl
 | tup l => cases l <;> rfl
 | _ => rfl
def bB {β : Type} (v : Option PV) (a b : Option β) : Option β := match v with
 | some (.k (.bool true)) => a
 | some (.k (.bool false)) => b
 | _ => none
@[simp] theorem bB_t {β : Type} (a b : Option β) : bB (some (.k (.bool true))) a b = a := rfl
@[simp] theorem bB_f {β : Type} (a b : Option β) : bB (some (.k (.bool false))) a b = b := rfl
theorem K_pick (bars env σ c a b) : opE bars env σ (.pick c a b) = bB (ev env c) ((ev env a).bind fun v => some (.val v σ)) ((ev env b).bind fun v => some (.val v σ)) := by
 rw [opE]; rfl
theorem bB_split {x : Bool} {p q : Option OpR} {o d b l env} {K : KT α} {R : Option α} (h1 : x = true → kO T H p o d b l env K = R) (h2 : x = false → kO T H q o d b l env K = R) : kO T H (bB (some (.k (.bool x))) p q) o d b l env K = R := by
 cases x
 ·exact h2 rfl
 ·exact h1 rfl
@[simp] theorem bind_ite {β γ : Type} (p : Prop) [Decidable p] (a b : Option β) (f : β → Option γ) : (if p then a else b).bind f = if p then a.bind f else b.bind f := by split <;> rfl
end
attribute [simp] K_skip K_exit K_ret K_seq K_reg K_regd K_dr K_cond K_block K_cut K_loop K_ps K_psa K_op0 K_op K_opg K_pick X_callF opE.eq_1 opE.eq_3 opE.eq_4 opE.eq_5 opE.eq_6 opE.eq_7 opE.eq_8 opE.eq_9 opE.eq_10 opE.eq_11 opE.eq_12 opE.eq_13 opE.eq_14 opE.eq_15 opE.eq_16 opE.eq_17 opE.eq_18 opE.eq_19 opE.eq_20 opE.eq_21 opE.eq_22 opE.eq_23 opE.eq_24 opE.eq_25 opE.eq_26 opE.eq_27 opE.eq_28 opE.eq_29 opE.eq_30 opE.eq_31 opE.eq_32 opE.eq_33 opE.eq_34 opE.eq_35 opE.eq_36 opE.eq_37 opE.eq_38 opE.eq_39 opE.eq_40 opE.eq_41 opE.eq_42 opE.eq_43 opE.eq_44 opE.eq_45 opE.eq_46 opE.eq_47 opE.eq_48 opE.eq_49 opE.eq_50 opE.eq_51 opE.eq_52 opE.eq_53 opE.eq_54 opE.eq_55 opE.eq_56 opE.eq_57 opE.eq_58
end
end Go.Ev


namespace Go.Ev
noncomputable section
section
variable {T : FuncId → Option IF} {H : Hook} {α : Type}
theorem RR_hook {f : FuncId} {h : List PV → Sto → Option (Out × Sto)} (hH : H f = some h) (hf : f < YB) {args : List PV} (h1 : below.belowAll 0 args = false) (h2 : below.belowAll 0 (norm.normAll args) = false) (bars : List Nat) (σ : Sto) : RR T H bars f args σ = h args σ := by
 rw [RR_open h1 h2,runV_eq,body,if_neg (Nat.not_le.2 hf),hH]
theorem RR_round (bars : List Nat) (l : Nat) (args : List PV) (σ : Sto) : RR T H bars (YB + l) args σ = roundE (RR T H) iterW bars l args σ := by
 unfold RR
 rw [xcall_round,runV_eq,body,if_pos (Nat.le_add_right ..),Nat.add_sub_cancel_left]
def kR2 (l n : Nat) : KT (Out × Sto) := fun e _ σ2 => match σ2[l]? with
 | some (.loop env' ps' a' b' 1 none) => (pendE e).bind fun p => some (.ret (.b p.isNone),(σ2.set l (.loop env' ps' a' b' (if p.isNone then 0 else 2) p)).take n)
 | _ => none
def kR1 (T : FuncId → Option IF) (H : Hook) (bars : List Nat) (l n : Nat) (bd : IC) : KT (Out × Sto) := fun x env1 σ1 => match x with
 | .norm => match σ1[l]? with
  | some (.loop env' ps' a' b' 0 none) => EK T H (n :: bars) bd env1 (σ1.set l (.loop env' ps' a' b' 1 none)) (kR2 l n)
  | _ => none
 | _ => none
theorem RR_yld {bars : List Nat} {l : Nat} {args : List PV} {σ : Sto} {env : Env} {ps : List Nat} {asg bd : IC} (h : σ[l]? = some (.loop env ps asg bd 0 none)) (hl : args.length = ps.length) :
  RR T H bars (YB + l) args σ = EK T H (σ.length :: bars) asg (putArgs ps args env) σ (kR1 T H bars l σ.length bd) := by
 rw [RR_round,roundE,h]
 simp only []
 rw [if_pos hl]
 unfold EK bX kR1 E
 rcases evC (RR T H) iterW (σ.length :: bars) asg (putArgs ps args env) σ with _ | ⟨x,e,s⟩
 ·rfl
 cases x with
 | norm =>
  simp only []
  rcases hs : s[l]? with _ | ob
  ·rfl
  cases ob with
  | loop env' ps' a' b' st pend =>
   cases st with
   | zero =>
    cases pend with
    | none =>
     simp only []
     unfold EK bX kR2 E
     rcases evC (RR T H) iterW (σ.length :: bars) bd e (s.set l (.loop env' ps' a' b' 1 none)) with _ | ⟨y,e2,s2⟩
     ·rfl
     ·rfl
    | some p => rfl
   | succ n => rfl
  | _ => rfl
 | _ => rfl
theorem K_rfunc {b : List Nat} {f : Opd} {ps keep : List Nat} {asg bd : IC} {env : Env} {σ : Sto} {K : KT α} {g : FuncId} {cap : List PV} {v : PV} {σ' : Sto} {env' ps' a' b' st pend e} (hf : ev env f = some (.fn (.func g) cap)) (hg : g < YB)
  (hr : RR T H b g (.yld σ.length :: cap) (σ ++ [.loop (restrict keep env) ps asg bd 0 none]) = some (.ret v,σ')) (hl : σ'[σ.length]? = some (.loop env' ps' a' b' st pend)) (he : endLoopE st pend = some e) :
  EK T H b (.rfunc f ps keep asg bd) env σ K = K e env (σ'.set σ.length (.loop env' ps' a' b' 3 pend)) := by
 unfold EK
 rw [E_rfunc,hf]
 simp only []
 rw [if_pos hg,hr]
 simp only []
 rw [hl]
 simp only [he]
 rfl
end
end
end Go.Ev
