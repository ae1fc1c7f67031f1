/- Pure values of the program's types; rules for the symbolic evaluation of the interpreter. -/
import Derived.Test.YtfgcfaggklbpfaaGreatDoorEvF
import Derived.Test.YtfgcfaggklbpfaaGreatDoorEvM
set_option linter.unnecessarySimpa false
set_option linter.unusedVariables false
set_option linter.unusedSimpArgs false
set_option linter.unusedSectionVars false
namespace Go.Ev
set_option linter.unusedSimpArgs false
set_option linter.unusedVariables false

@[simp] theorem cells_agg (c : List PV) : cells (.agg c) = c := rfl
@[simp] theorem cells_k (v : Value) : cells (.k v) = [.k v] := rfl
@[simp] theorem cells_sl (t : Bool) (e : List (List PV)) : cells (.sl t e) = [.sl t e] := rfl
@[simp] theorem cells_ow (a b : Nat) (e : List (List PV)) : cells (.ow a b e) = [.ow a b e] := rfl
@[simp] theorem cells_rs (a b c d : Nat) : cells (.rs a b c d) = [.rs a b c d] := rfl
@[simp] theorem cells_ptr (a b : Nat) : cells (.ptr a b) = [.ptr a b] := rfl
@[simp] theorem cells_fn (f : Fn) (l : List PV) : cells (.fn f l) = [.fn f l] := rfl

@[simp] theorem okc_agg (l : List PV) : okc (.agg l) = true := rfl
@[simp] theorem okc_sl (t : Bool) (e : List (List PV)) : okc (.sl t e) = true := rfl
@[simp] theorem okc_ow (a b : Nat) (e : List (List PV)) : okc (.ow a b e) = true := rfl
@[simp] theorem okc_rs (a b c d : Nat) : okc (.rs a b c d) = true := rfl
@[simp] theorem okc_ptr (a b : Nat) : okc (.ptr a b) = true := rfl
@[simp] theorem okc_fn (f : Fn) (l : List PV) : okc (.fn f l) = true := rfl
@[simp] theorem okc_map (a : Nat) : okc (.map a) = true := rfl
@[simp] theorem okc_iface (a : TypeId) (v : PV) : okc (.iface a v) = true := rfl
@[simp] theorem okc_int (k : IntKind) (n : Int) : okc (.k (.int k n)) = true := rfl
@[simp] theorem okc_bool (b : Bool) : okc (.k (.bool b)) = true := rfl
@[simp] theorem okc_str (s : ByteArray) : okc (.k (.string s)) = true := rfl
@[simp] theorem okc_nilf : okc (.k .nilFunc) = true := rfl
@[simp] theorem okc_nili : okc (.k .nilIface) = true := rfl

theorem nr {a b : Bool} (h : a = b) : a = b := by cases a <;> cases b <;> first | rfl | exact h
@[simp] theorem b_k (n : Nat) (v : Value) : below n (.k v) = true := nr (by simp only [below])
@[simp] theorem b_ptr (n id o : Nat) : below n (.ptr id o) = decide (id < n) := nr (by simp only [below])
@[simp] theorem b_pa (n id a b c : Nat) : below n (.pa id a b c) = decide (id < n) := nr (by simp only [below])
@[simp] theorem b_pe (n : Nat) (cs : List PV) (o : Nat) : below n (.pe cs o) = below.belowAll n cs := nr (by simp only [below])
@[simp] theorem b_sl (n : Nat) (t : Bool) (es : List (List PV)) : below n (.sl t es) = below.belowEs n es := nr (by simp only [below])
@[simp] theorem b_ow (n id m : Nat) (es : List (List PV)) : below n (.ow id m es) = (decide (id < n) && below.belowEs n es) := nr (by simp only [below])
@[simp] theorem b_rs (n id a b c : Nat) : below n (.rs id a b c) = decide (id < n) := nr (by simp only [below])
@[simp] theorem b_agg (n : Nat) (cs : List PV) : below n (.agg cs) = below.belowAll n cs := nr (by simp only [below])
@[simp] theorem b_tup (n : Nat) (cs : List PV) : below n (.tup cs) = below.belowAll n cs := nr (by simp only [below])
@[simp] theorem b_fn (n : Nat) (f : Fn) (cs : List PV) : below n (.fn f cs) = below.belowAll n cs := nr (by simp only [below])
@[simp] theorem b_yld (n id : Nat) : below n (.yld id) = decide (id < n) := nr (by simp only [below])
@[simp] theorem b_bm (n : Nat) (f : FuncId) (cs : List PV) : below n (.bm f cs) = below.belowAll n cs := nr (by simp only [below])
@[simp] theorem b_map (n id : Nat) : below n (.map id) = decide (id < n) := nr (by simp only [below])
@[simp] theorem b_iface (n : Nat) (t : TypeId) (v : PV) : below n (.iface t v) = below n v := nr (by simp only [below])
@[simp] theorem bA_nil (n : Nat) : below.belowAll n [] = true := nr (by simp only [below.belowAll])
@[simp] theorem bA_cons (n : Nat) (v : PV) (r : List PV) : below.belowAll n (v :: r) = (below n v && below.belowAll n r) := nr (by simp only [below.belowAll])
@[simp] theorem bE_nil (n : Nat) : below.belowEs n [] = true := nr (by simp only [below.belowEs])
@[simp] theorem bE_cons (n : Nat) (v : List PV) (r : List (List PV)) : below.belowEs n (v :: r) = (below.belowAll n v && below.belowEs n r) := nr (by simp only [below.belowEs])

/-- A term. -/
inductive Tm where
  | mk (op head n : Int) (args : List Tm)

mutual
def Tm.cells : Tm → List PV
  | .mk op hd n args => [.i op, .i hd, .i n, .sl false (Tm.cellsL args)]
def Tm.cellsL : List Tm → List (List PV)
  | [] => []
  | t :: r => Tm.cells t :: Tm.cellsL r
end
def Tm.enc (t : Tm) : PV := .agg t.cells

theorem Tm.ind {p : Tm → Prop} (h : ∀ op hd n args, (∀ t ∈ args, p t) → p (.mk op hd n args)) : ∀ t, p t
  | .mk op hd n args => h op hd n args fun t ht => Tm.ind h t
termination_by t => SizeOf.sizeOf t
decreasing_by
  have := List.sizeOf_lt_of_mem ht
  simp; omega

theorem Tm.cellsL_eq (l : List Tm) : Tm.cellsL l = l.map Tm.cells := by
  induction l with
  | nil => rfl
  | cons t r ih => simp [Tm.cellsL, ih]
@[simp] theorem cellsL_length (l : List Tm) : (Tm.cellsL l).length = l.length := by simp [Tm.cellsL_eq]

def I64 (n : Int) : Prop := -9223372036854775808 ≤ n ∧ n ≤ 9223372036854775807
mutual
/-- The numbers fit, the lists are not longer than Go's. -/
def Tm.ok : Tm → Prop
  | .mk op hd n args => I64 op ∧ I64 hd ∧ I64 n ∧ args.length ≤ maxLen ∧ Tm.okL args
def Tm.okL : List Tm → Prop
  | [] => True
  | t :: r => Tm.ok t ∧ Tm.okL r
end
theorem Tm.okL_mem {l : List Tm} : Tm.okL l ↔ ∀ t ∈ l, t.ok := by
  induction l with
  | nil => simp [Tm.okL]
  | cons x r ih => simp [Tm.okL, ih]

mutual
@[simp] theorem below_tm (n : Nat) : ∀ t : Tm, below.belowAll n t.cells = true
  | .mk op hd m args => by simp [Tm.cells, below.belowAll, below, below_tmL n args]
@[simp] theorem below_tmL (n : Nat) : ∀ l : List Tm, below.belowEs n (Tm.cellsL l) = true
  | [] => rfl
  | t :: r => by simp [Tm.cellsL, below.belowEs, below_tm n t, below_tmL n r]
end
@[simp] theorem below_enc (n : Nat) (t : Tm) : below n t.enc = true := by simp [Tm.enc, below]
@[simp] theorem norm_tm : (∀ t : Tm, norm.normAll t.cells = t.cells) := by
  intro t; cases t; simp [Tm.cells, norm.normAll, norm]
@[simp] theorem norm_enc (t : Tm) : norm t.enc = t.enc := by simp [Tm.enc, norm]
@[simp] theorem tm_len (t : Tm) : t.cells.length = 4 := by cases t; simp [Tm.cells]
@[simp] theorem cells_enc (t : Tm) : cells t.enc = t.cells := rfl
@[simp] theorem take_tm (t : Tm) : List.take 4 t.cells = t.cells := List.take_of_length_le (by simp)
@[simp] theorem drop_tm (t : Tm) : List.drop 4 t.cells = [] := List.drop_eq_nil_of_le (by simp)
@[simp] theorem okc_enc (t : Tm) : okc t.enc = true := rfl
def Tm.args : Tm → List Tm
  | .mk _ _ _ l => l
@[simp] theorem tm_get3 (t : Tm) : t.cells[3]? = some (.sl false (Tm.cellsL t.args)) := by cases t; rfl
@[simp] theorem tm_get3' (t : Tm) (h : 3 < t.cells.length) : t.cells[3]'h = .sl false (Tm.cellsL t.args) := by cases t; rfl
@[simp] theorem agg_tm (t : Tm) : PV.agg t.cells = t.enc := rfl
@[simp] theorem get_tmL (l : List Tm) (i : Nat) : (Tm.cellsL l)[i]? = (l[i]?).map Tm.cells := by simp [Tm.cellsL_eq]
@[simp] theorem allLen_tmL (l : List Tm) : allLen 4 (Tm.cellsL l) = true := by
  induction l with
  | nil => rfl
  | cons t r ih => simp [Tm.cellsL, allLen, ih]

theorem wrap_small (n : Int) (h0 : -9223372036854775808 ≤ n) (h1 : n ≤ 9223372036854775807) : IntKind.i64.wrap n = n := by
  simp [IntKind.wrap, IntKind.bits, IntKind.signed]
  omega
theorem wrap_i {n : Int} (h : I64 n) : IntKind.i64.wrap n = n := wrap_small n h.1 h.2

theorem barsOk_closed {id : Nat} {x : PV} (h : below 0 x = true) : ∀ bars, barsOk bars id x = true
  | [] => rfl
  | b :: r => by simp [barsOk, below_mono (Nat.zero_le b) x h, barsOk_closed h r]

theorem get_some {α : Type} {l : List α} {i : Nat} (h : i < l.length) : ∃ t, l[i]? = some t ∧ t ∈ l ∧ l.drop i = t :: l.drop (i + 1) :=
  ⟨l[i], List.getElem?_eq_getElem h, List.getElem_mem h, List.drop_eq_getElem_cons h⟩
theorem drop_end {α : Type} {l : List α} {i : Nat} (h : i + 0 = l.length) : l.drop i = [] := List.drop_eq_nil_of_le (by omega)
theorem sto_get0 (σ l : Sto) : (σ ++ l)[σ.length]? = l[0]? := by rw [List.getElem?_append_right (Nat.le_refl _), Nat.sub_self]
theorem sto_get (σ l : Sto) (k : Nat) : (σ ++ l)[σ.length + k]? = l[k]? := by rw [List.getElem?_append_right (by omega)]; congr 1; omega
theorem sto_take (σ l : Sto) : (σ ++ l).take σ.length = σ := List.take_left'  rfl
theorem sto_takek (σ l : Sto) (k : Nat) : (σ ++ l).take (σ.length + k) = σ ++ l.take k := by rw [List.take_append, List.take_of_length_le (by omega)]; congr 2; omega
theorem sto_old {σ : Sto} {p : Nat} {ob : Ob} (h : σ[p]? = some ob) (l : Sto) : (σ ++ l)[p]? = some ob := by rw [List.getElem?_append_left (List.getElem?_eq_some_iff.1 h).1]; exact h

@[simp] theorem barsOk_c (bars : List Nat) (id : Nat) (x : PV) (h : below 0 x = true) : barsOk bars id x = true := barsOk_closed h bars

/-- A list of numbers. -/
def ints (l : List Int) : List (List PV) := l.map fun n => [.i n]
@[simp] theorem ints_length (l : List Int) : (ints l).length = l.length := by simp [ints]
@[simp] theorem ints_nil : ints [] = [] := rfl
@[simp] theorem ints_cons (a : Int) (l : List Int) : ints (a :: l) = [.i a] :: ints l := rfl
@[simp] theorem ints_append (a b : List Int) : ints a ++ ints b = ints (a ++ b) := by simp [ints]
@[simp] theorem ints_get (l : List Int) (i : Nat) : (ints l)[i]? = (l[i]?).map fun n => [PV.i n] := by simp [ints]
theorem below_ints (n : Nat) (l : List Int) : below.belowEs n (ints l) = true := by
  induction l with
  | nil => rfl
  | cons a r ih => simp only [ints, List.map_cons] at ih ⊢; simp [below.belowEs, below.belowAll, below, ih]
@[simp] theorem below_ints' (n : Nat) (l : List Int) : below.belowEs n (ints l) = true := below_ints n l
@[simp] theorem allLen_ints (l : List Int) : allLen 1 (ints l) = true := by
  induction l with
  | nil => rfl
  | cons a r ih => simp only [ints, List.map_cons] at ih ⊢; simp [allLen, ih]

attribute [simp] look putE evs evp evq evo wantedE ev

section
variable {T : FuncId → Option IF} {H : Hook}
/-- The calls of code. -/
noncomputable def RR (T : FuncId → Option IF) (H : Hook) : Sem' := xcall (runV T H)
/-- The meaning of code. -/
noncomputable def E (T : FuncId → Option IF) (H : Hook) : CSem := evC (RR T H) iterW
/-- Rounds of a loop. -/
noncomputable def LO (T : FuncId → Option IF) (H : Hook) (b : List Nat) (a : IC) (x : Env × Sto) : Option (Ex × Env × Sto) := iterW (fun x => E T H b a x.1 x.2) x

theorem LO_eq (b : List Nat) (a : IC) (env : Env) (σ : Sto) : LO T H b a (env, σ) = match E T H b a env σ with
    | some (.norm, env', σ') => LO T H b a (env', σ')
    | r => r := by
  unfold LO
  rw [iterW_eq]
  cases E T H b a env σ with
  | none => rfl
  | some y => obtain ⟨e, y1, y2⟩ := y; cases e <;> rfl
theorem E_skip (b : List Nat) (env : Env) (σ : Sto) : E T H b .skip env σ = some (.norm, env, σ) := rfl
theorem E_seq (b : List Nat) (x y : IC) (env : Env) (σ : Sto) : E T H b (.seq x y) env σ = match E T H b x env σ with
    | some (.norm, env', σ') => E T H b y env' σ'
    | r => r := rfl
theorem E_reg (b : List Nat) (d : Option (List (Nat × Option Nat))) (ops : List IOper) (keep : List Nat) (env : Env) (σ : Sto) : E T H b (.reg d ops keep) env σ = match evOps (RR T H) b ops env σ with
    | some (.norm, env', σ') => some (.norm, restrict keep env', σ')
    | r => if d.isSome then none else r := rfl
theorem E_ps (b : List Nat) (l : List Ps) (c : IC) (env : Env) (σ : Sto) : E T H b (.ps l c) env σ = match psE b env σ l with
    | some (env', σ') => E T H b c env' σ'
    | none => none := rfl
theorem E_psa (b : List Nat) (l : List Ps) (c : IC) (env : Env) (σ : Sto) : E T H b (.psa c l) env σ = match E T H b c env σ with
    | some (.norm, env', σ') => (match psE b env' σ' l with
      | some (env'', σ'') => some (.norm, env'', σ'')
      | none => none)
    | r => r := rfl
theorem E_cond (b : List Nat) (c : Opd) (x y : IC) (env : Env) (σ : Sto) : E T H b (.cond c x y) env σ = match ev env c with
    | some (.k (.bool true)) => E T H b x env σ
    | some (.k (.bool false)) => E T H b y env σ
    | _ => none := rfl
theorem E_block (b : List Nat) (id : Nat) (a : IC) (env : Env) (σ : Sto) : E T H b (.block id a) env σ = match E T H b a env σ with
    | some (.exit j, env', σ') => if j = id then some (.norm, env', σ') else some (.exit j, env', σ')
    | r => r := rfl
theorem E_loop (b : List Nat) (a : IC) (env : Env) (σ : Sto) : E T H b (.loop a) env σ = LO T H b a (env, σ) := rfl
theorem E_cut (b : List Nat) (a : IC) (keep : List Nat) (env : Env) (σ : Sto) : E T H b (.cut a keep) env σ = match E T H (σ.length :: b) a env σ with
    | some (.norm, env', σ') => if envBelow σ.length (restrict keep env') then some (.norm, restrict keep env', σ'.take σ.length) else none
    | some (.exit id, env', σ') => if envBelow σ.length env' then some (.exit id, env', σ'.take σ.length) else some (.exit id, env', σ')
    | some (.ret, env', σ') => if envBelow σ.length env' then some (.ret, env', σ'.take σ.length) else some (.ret, env', σ')
    | r => r := rfl
theorem E_rfunc (b : List Nat) (f : Opd) (ps keep : List Nat) (asg bd : IC) (env : Env) (σ : Sto) : E T H b (.rfunc f ps keep asg bd) env σ = match ev env f with
    | some (.fn (.func g) cap) => if g < YB then
        match RR T H b g (.yld σ.length :: cap) (σ ++ [.loop (restrict keep env) ps asg bd 0 none]) with
        | some (.ret _, σ') => match σ'[σ.length]? with
          | some (.loop env' ps' a' b' st pend) => (endLoopE st pend).bind fun e => some (e, env, σ'.set σ.length (.loop env' ps' a' b' 3 pend))
          | _ => none
        | some (.pan v, σ') => some (.pan v, env, σ')
        | none => none
      else none
    | _ => none := rfl
theorem E_exit (b : List Nat) (id : Nat) (keep : List Nat) (env : Env) (σ : Sto) : E T H b (.exit id keep) env σ = some (.exit id, restrict keep env, σ) := rfl
theorem E_ret (b : List Nat) (keep : List Nat) (env : Env) (σ : Sto) : E T H b (.ret keep) env σ = some (.ret, restrict keep env, σ) := rfl
theorem callF_eq (fn : IF) (bars : List Nat) (args : List PV) (σ : Sto) : callF T H fn bars args σ = match E T H (σ.length :: bars) fn.body (argEnvM fn.mode args) σ with
  | some (.norm, env, σ') | some (.ret, env, σ') => (ressE env σ' fn.res).bind fun vs => (leave fn.mode σ.length (pack vs) σ').bind fun p => some (.ret p.1, p.2)
  | some (.pan v, _, σ') => if below σ.length v then some (.pan v, σ'.take σ.length) else none
  | _ => none := rfl

/-- What is known of a call without store names. -/
theorem RR_of {f : FuncId} {args : List PV} {r : Out} (h : runV T H [] f args [] = some (r, [])) (hb : below.belowAll 0 args = true) (hf : f < YB) (bars : List Nat) (σ : Sto) : RR T H bars f args σ = some (r, σ) := xcall_closed h hb hf
theorem RR_open {f : FuncId} {args : List PV} (h1 : below.belowAll 0 args = false) (h2 : below.belowAll 0 (norm.normAll args) = false) (bars : List Nat) (σ : Sto) : RR T H bars f args σ = runV T H bars f args σ := xcall_open h1 h2
end

theorem set_self {σ : Sto} {p : Nat} {x : Ob} (h : σ[p]? = some x) : σ.set p x = σ := by
  apply List.ext_getElem? 
  intro i
  rw [List.getElem?_set]
  split
  · rename_i hp; subst hp
    rw [h]; simp [(List.getElem?_eq_some_iff.1 h).1]
  · rfl
theorem take_len {σ l : Sto} {n : Nat} (h : σ.length = n) : (σ ++ l).take n = σ := List.take_left' h
theorem get_len {σ l : Sto} {n : Nat} (h : σ.length = n) : (σ ++ l)[n]? = l[0]? := by subst h; exact sto_get0 σ l

attribute [simp] E_skip E_seq E_reg E_ps E_psa E_cond E_block E_loop E_cut E_exit E_ret callF_eq evOps evOp1 opE restrict binE unE loadE storeE takeAt putAt mkv lenE callE envBelow norm norm.normAll argEnvM argEnv argEnvR psE ressE resE leave pack IOp.bad IOp.quiet IOp.growq IOp.avs elemsOf appE sliceE fillP bslE
end Go.Ev

/- law21.weigh. -/
namespace Go.Ev
set_option linter.unusedSimpArgs false
set_option linter.unusedVariables false

mutual
def Tm.weigh : Tm → Int → Int
  | .mk _ _ _ args, d => if 100 < d then 4000 else Tm.weighL args (d + 1) 1
def Tm.weighL : List Tm → Int → Int → Int
  | [], _, n => n
  | t :: r, d, n => if n ≤ 2000 then Tm.weighL r d (n + t.weigh d) else n
end

mutual
theorem weigh_bd : ∀ (t : Tm) (d : Int), d ≤ 101 → 0 ≤ t.weigh d ∧ t.weigh d ≤ 4000 + 2000 * (101 - d)
  | .mk _ _ _ args, d, h => by
    unfold Tm.weigh
    split
    · omega
    · have := weighL_bd args (d + 1) 1 (by omega) (by omega) (by omega)
      omega
theorem weighL_bd : ∀ (l : List Tm) (d n : Int), d ≤ 101 → 0 ≤ n → n ≤ 4000 + 2000 * (102 - d) → 0 ≤ Tm.weighL l d n ∧ Tm.weighL l d n ≤ 4000 + 2000 * (102 - d)
  | [], d, n, h, h0, h1 => by unfold Tm.weighL; omega
  | t :: r, d, n, h, h0, h1 => by
    unfold Tm.weighL
    split
    · have := weigh_bd t d h
      exact weighL_bd r d _ h (by omega) (by omega)
    · omega
end

theorem weigh_loop (args : List Tm) (op hd m d : Int) (hlen : args.length ≤ maxLen) (hd0 : 0 ≤ d) (hd1 : d ≤ 100) (ih : ∀ t ∈ args, ∀ d : Int, 0 ≤ d → d ≤ 101 → runV TT HH [] n_law21_weigh [t.enc, .i d] [] = some (.ret (.i (t.weigh d)), [])) :
    ∀ (k i : Nat) (n : Int), i + k = args.length → 0 ≤ n → n ≤ 4000 + 2000 * (101 - d) →
      LO TT HH [0] ir_law21_weighL0 ([(1, .i d), (2, .ptr 0 0), (5, .i n), (6, .i i)], [.var [.i op, .i hd, .i m, .sl false (Tm.cellsL args)]]) =
        some (.exit 0, [(5, .i (Tm.weighL (args.drop i) (d + 1) n))], [.var [.i op, .i hd, .i m, .sl false (Tm.cellsL args)]]) := by
  intro k
  induction k with
  | zero =>
    intro i n hi h0 h1
    rw [LO_eq]
    have e1 : ¬ ((i : Int) < args.length) := by omega
    have e2 : args.drop i = [] := List.drop_eq_nil_of_le (by omega)
    have e3 : args.length < 2 ^ 63 := by unfold maxLen at hlen; omega
    simp [ir_law21_weighL0, e1, e2, e3, Tm.weighL]
  | succ k ihk =>
    intro i n hi h0 h1
    rw [LO_eq]
    obtain ⟨t, ht⟩ : ∃ t, args[i]? = some t := ⟨args[i], List.getElem?_eq_getElem (by omega)⟩
    have e1 : ((i : Int) < args.length) := by omega
    have e2 : args.drop i = t :: args.drop (i + 1) := by
      rw [List.drop_eq_getElem_cons (by omega)]
      congr 1
      exact Option.some.inj ((List.getElem?_eq_getElem (by omega)).symm.trans ht)
    have e3 : args.length < 2 ^ 63 := by unfold maxLen at hlen; omega
    have hb := weigh_bd t (d + 1) (by omega)
    have hw1 : IntKind.i64.wrap (d + 1) = d + 1 := wrap_small _ (by omega) (by omega)
    have hw3 : IntKind.i64.wrap ((i : Int) + 1) = (i : Int) + 1 := wrap_small _ (by omega) (by omega)
    by_cases hn : n ≤ 2000
    · have hth := ihk (i + 1) (n + t.weigh (d + 1)) (by omega) (by omega) (by omega)
      clear ihk
      push_cast at hth
      generalize LO TT HH [0] ir_law21_weighL0 = F at hth ⊢
      have hw2 : IntKind.i64.wrap (n + t.weigh (d + 1)) = n + t.weigh (d + 1) := wrap_small _ (by omega) (by omega)
      have hc := RR_of (ih t (List.mem_of_getElem? ht) (d + 1) (by omega) (by omega)) (by simp) (by simp)
      simp [ir_law21_weighL0, e1, e2, e3, hn, ht, hc, hw1, hw2, hw3, hth, Tm.weighL]
    · simp [ir_law21_weighL0, e1, e2, e3, hn, Tm.weighL]

theorem weigh_spec : ∀ t : Tm, t.ok → ∀ d : Int, 0 ≤ d → d ≤ 101 → runV TT HH [] n_law21_weigh [t.enc, .i d] [] = some (.ret (.i (t.weigh d)), []) :=
  Tm.ind fun op hd n args ih hok d h0 h1 => by
    rw [eq_law21_weigh]
    unfold Tm.ok at hok
    have hargs := Tm.okL_mem.1 hok.2.2.2.2
    by_cases hd100 : 100 < d
    · simp [ir_law21_weigh, Tm.enc, Tm.cells, hd100, Tm.weigh]
    · have hl := weigh_loop args op hd n d hok.2.2.2.1 h0 (by omega) (fun t ht d => ih t ht (hargs t ht) d) args.length 0 1 (by omega) (by omega) (by omega)
      simp at hl
      simp [ir_law21_weigh, Tm.enc, Tm.cells, hd100, Tm.weigh, hl]
end Go.Ev

/- The terms' plain measures; ref03.nodes, ref03.formed, ref21.object, enum.nodes. -/
namespace Go.Ev
set_option linter.unusedSimpArgs false
set_option linter.unusedVariables false

mutual
def Tm.nodes : Tm → Nat
  | .mk _ _ _ args => 1 + Tm.nodesL args
def Tm.nodesL : List Tm → Nat
  | [] => 0
  | t :: r => t.nodes + Tm.nodesL r
end
theorem nodes_pos : ∀ t : Tm, 1 ≤ t.nodes
  | .mk _ _ _ _ => by unfold Tm.nodes; omega
theorem nodesL_mem {l : List Tm} {t : Tm} (h : t ∈ l) : t.nodes ≤ Tm.nodesL l := by
  induction l with
  | nil => cases h
  | cons x r ih =>
    unfold Tm.nodesL
    rcases List.mem_cons.1 h with rfl | h
    · omega
    · have := ih h; omega
theorem nodesL_len (l : List Tm) : l.length ≤ Tm.nodesL l := by
  induction l with
  | nil => simp
  | cons x r ih => unfold Tm.nodesL; have := nodes_pos x; simp; omega

mutual
theorem weigh_nodes : ∀ (t : Tm) (d : Int), t.weigh d ≤ 2000 → t.weigh d = t.nodes
  | .mk op hd n args, d, h => by
    unfold Tm.weigh at h ⊢
    split at h
    · omega
    · rename_i hd
      rw [if_neg hd]
      have := weighL_nodes args (d + 1) 1 (by omega) h
      unfold Tm.nodes
      push_cast
      omega
theorem weighL_nodes : ∀ (l : List Tm) (d n : Int), 0 ≤ n → Tm.weighL l d n ≤ 2000 → Tm.weighL l d n = n + Tm.nodesL l
  | [], d, n, h0, h => by unfold Tm.weighL Tm.nodesL; simp
  | t :: r, d, n, h0, h => by
    unfold Tm.weighL at h ⊢
    split at h
    · rename_i hn
      rw [if_pos hn]
      have hge : ∀ (r : List Tm) (n : Int), n ≤ Tm.weighL r d n ∨ Tm.weighL r d n < 0 ∨ True := fun _ _ => .inr (.inr trivial)
      by_cases ht : t.weigh d ≤ 2000
      · have h2 := weigh_nodes t d ht
        have h1 := weighL_nodes r d (n + t.weigh d) (by omega) h
        unfold Tm.nodesL
        push_cast
        omega
      · have h1 := weighL_nodes r d (n + t.weigh d) (by omega) h
        omega
    · omega
end

/- ref03.nodes: bounded. -/
mutual
def Tm.rnodes : Tm → Int → Int
  | .mk _ _ _ args, m => min (Tm.rnodesL args m 1) (m + 1)
def Tm.rnodesL : List Tm → Int → Int → Int
  | [], _, n => n
  | t :: r, m, n => if n ≤ m then Tm.rnodesL r m (n + t.rnodes (m - n)) else n
end
mutual
theorem rnodes_eq : ∀ (t : Tm) (m : Int), 0 ≤ m → t.rnodes m = min (t.nodes : Int) (m + 1)
  | .mk op hd n args, m, h => by
    unfold Tm.rnodes Tm.nodes
    have := rnodesL_eq args m 1 (by omega) (by omega)
    push_cast
    omega
theorem rnodesL_eq : ∀ (l : List Tm) (m n : Int), 0 ≤ n → n ≤ m + 1 → min (Tm.rnodesL l m n) (m + 1) = min (n + Tm.nodesL l : Int) (m + 1) ∧ 0 ≤ Tm.rnodesL l m n ∧ Tm.rnodesL l m n ≤ m + 1
  | [], m, n, h0, h1 => by unfold Tm.rnodesL Tm.nodesL; refine ⟨by simp, h0, h1⟩
  | t :: r, m, n, h0, h1 => by
    unfold Tm.rnodesL
    split
    · rename_i hn
      have h2 := rnodes_eq t (m - n) (by omega)
      have hp := nodes_pos t
      have h3 := rnodesL_eq r m (n + t.rnodes (m - n)) (by omega) (by omega)
      unfold Tm.nodesL
      push_cast
      omega
    · unfold Tm.nodesL
      push_cast
      omega
end

theorem rnodes_loop (args : List Tm) (op hd m : Int) (q : Int) (hlen : args.length ≤ maxLen) (hq0 : 0 ≤ q) (hq1 : q ≤ 100000) (ih : ∀ t ∈ args, ∀ q : Int, 0 ≤ q → q ≤ 100000 → runV TT HH [] n_ref03_nodes [t.enc, .i q] [] = some (.ret (.i (t.rnodes q)), [])) :
    ∀ (k i : Nat) (n : Int), i + k = args.length → 0 ≤ n → n ≤ q + 1 →
      LO TT HH [0] ir_ref03_nodesL0 ([(1, .i q), (2, .ptr 0 0), (5, .i n), (6, .i i)], [.var [.i op, .i hd, .i m, .sl false (Tm.cellsL args)]]) =
        some (.exit 0, [(1, .i q), (5, .i (Tm.rnodesL (args.drop i) q n))], [.var [.i op, .i hd, .i m, .sl false (Tm.cellsL args)]]) := by
  intro k
  have e3 : args.length < 2 ^ 63 := by unfold maxLen at hlen; omega
  induction k with
  | zero =>
    intro i n hi h0 h1
    rw [LO_eq]
    have e1 : ¬ ((i : Int) < args.length) := by omega
    simp [ir_ref03_nodesL0, e1, drop_end hi, e3, Tm.rnodesL]
  | succ k ihk =>
    intro i n hi h0 h1
    rw [LO_eq]
    obtain ⟨t, ht, htm, e2⟩ := get_some (l := args) (i := i) (by omega)
    have e1 : ((i : Int) < args.length) := by omega
    have hw3 : IntKind.i64.wrap ((i : Int) + 1) = (i : Int) + 1 := wrap_small _ (by omega) (by omega)
    have hp := nodes_pos t
    by_cases hn : n ≤ q
    · have hb := rnodes_eq t (q - n) (by omega)
      have hw1 : IntKind.i64.wrap (q - n) = q - n := wrap_small _ (by omega) (by omega)
      have hw2 : IntKind.i64.wrap (n + t.rnodes (q - n)) = n + t.rnodes (q - n) := wrap_small _ (by omega) (by omega)
      have hth := ihk (i + 1) (n + t.rnodes (q - n)) (by omega) (by omega) (by omega)
      push_cast at hth
      generalize LO TT HH [0] ir_ref03_nodesL0 = F at hth ⊢
      have hc := RR_of (ih t htm (q - n) (by omega) (by omega)) (by simp) (by simp)
      simp [ir_ref03_nodesL0, e1, e2, e3, hn, ht, hc, hw1, hw2, hw3, hth, Tm.rnodesL]
    · simp [ir_ref03_nodesL0, e1, e2, e3, hn, Tm.rnodesL]

theorem rnodes_spec : ∀ t : Tm, t.ok → ∀ q : Int, 0 ≤ q → q ≤ 100000 → runV TT HH [] n_ref03_nodes [t.enc, .i q] [] = some (.ret (.i (t.rnodes q)), []) :=
  Tm.ind fun op hd n args ih hok q h0 h1 => by
    rw [eq_ref03_nodes]
    unfold Tm.ok at hok
    have hargs := Tm.okL_mem.1 hok.2.2.2.2
    have hl := rnodes_loop args op hd n q hok.2.2.2.1 h0 h1 (fun t ht => ih t ht (hargs t ht)) args.length 0 1 (by omega) (by omega) (by omega)
    have hw : IntKind.i64.wrap (q + 1) = q + 1 := wrap_small _ (by omega) (by omega)
    simp at hl
    simp [ir_ref03_nodes, Tm.enc, Tm.cells, Tm.rnodes, hl, hw]

theorem enodes_loop (args : List Tm) (s0 : Sto) (hs0 : s0.length = 1) (hlen : args.length ≤ maxLen) (ih : ∀ t ∈ args, t.nodes ≤ 100000 → runV TT HH [] n_enum_nodes [t.enc] [] = some (.ret (.i t.nodes), [])) :
    ∀ (k i : Nat) (n : Nat), i + k = args.length → n + Tm.nodesL (args.drop i) ≤ 100000 →
      LO TT HH [0] ir_enum_nodesL0 ([(3, .i n), (7, .sl false (Tm.cellsL args)), (8, .i args.length), (9, .i i)], s0) =
        some (.exit 0, [(3, .i (n + Tm.nodesL (args.drop i) : Nat))], s0) := by
  intro k
  obtain ⟨a, rfl⟩ : ∃ a, s0 = [a] := by
    match s0, hs0 with
    | [a], _ => exact ⟨a, rfl⟩
  have e3 : args.length < 2 ^ 63 := by unfold maxLen at hlen; omega
  induction k with
  | zero =>
    intro i n hi h0
    rw [LO_eq]
    have e1 : ¬ ((i : Int) < args.length) := by omega
    simp [ir_enum_nodesL0, e1, drop_end hi, e3, Tm.nodesL]
  | succ k ihk =>
    intro i n hi h0
    rw [LO_eq]
    obtain ⟨t, ht, htm, e2⟩ := get_some (l := args) (i := i) (by omega)
    have e1 : ((i : Int) < args.length) := by omega
    have hw3 : IntKind.i64.wrap ((i : Int) + 1) = (i : Int) + 1 := wrap_small _ (by omega) (by omega)
    rw [e2, Tm.nodesL] at h0
    have hw2 : IntKind.i64.wrap ((n : Int) + (t.nodes : Int)) = (n : Int) + (t.nodes : Int) := wrap_small _ (by omega) (by omega)
    have hth := ihk (i + 1) (n + t.nodes) (by omega) (by omega)
    push_cast at hth
    generalize LO TT HH [0] ir_enum_nodesL0 = F at hth ⊢
    have hc := RR_of (ih t htm (by omega)) (by simp) (by simp)
    simp [ir_enum_nodesL0, e1, e2, e3, ht, hc, hw2, hw3, hth, Tm.nodesL, Int.add_assoc]

theorem enodes_spec : ∀ t : Tm, t.ok → t.nodes ≤ 100000 → runV TT HH [] n_enum_nodes [t.enc] [] = some (.ret (.i t.nodes), []) :=
  Tm.ind fun op hd n args ih hok hn => by
    rw [eq_enum_nodes]
    unfold Tm.ok at hok
    unfold Tm.nodes at hn
    have hargs := Tm.okL_mem.1 hok.2.2.2.2
    have e3 : args.length < 2 ^ 63 := by have := hok.2.2.2.1; unfold maxLen at this; omega
    have hl := enodes_loop args [.var [.i op, .i hd, .i n, .sl false (Tm.cellsL args)]] rfl hok.2.2.2.1 (fun t ht => ih t ht (hargs t ht)) args.length 0 1 (by omega) (by simpa using hn)
    simp at hl
    simp [ir_enum_nodes, Tm.enc, Tm.cells, Tm.nodes, hl, e3]
end Go.Ev

/- ref03.formed, ref03.Proper, ref21.object, ref21.Object. -/
namespace Go.Ev
set_option linter.unusedSimpArgs false
set_option linter.unusedVariables false

/-- What a node may be, with so many parts. -/
def shape (op hd n len : Int) : Bool :=
  (decide (op = 1) && (decide (len = 0) && decide (hd = 0) && decide (n = 0))) ||
  (decide (op = 2) && (decide (len = 2) && decide (hd = 0) && decide (n = 0))) ||
  (decide (op = 3) && (decide (len = 1) && decide (hd = 0) && decide (n = 0))) ||
  (decide (op = 4) && (decide (1 ≤ hd) && decide (hd ≤ 3) && decide (0 ≤ n) && decide (n ≤ 9999)))

mutual
def Tm.formed : Tm → Int → Bool
  | .mk op hd n args, d => decide (d ≤ 40) && (shape op hd n args.length && Tm.formedL args (d + 1))
def Tm.formedL : List Tm → Int → Bool
  | [], _ => true
  | t :: r, d => t.formed d && Tm.formedL r d
end

theorem formed_loop (args : List Tm) (op hd m : Int) (d : Int) (hlen : args.length ≤ maxLen) (hd0 : 0 ≤ d) (hd1 : d ≤ 40) (ih : ∀ t ∈ args, ∀ d : Int, 0 ≤ d → d ≤ 41 → runV TT HH [] n_ref03_formed [t.enc, .i d] [] = some (.ret (.b (t.formed d)), [])) :
    ∀ (k i : Nat), i + k = args.length →
      LO TT HH [0] ir_ref03_formedL0 ([(1, .i d), (2, .ptr 0 0), (5, .i i)], [.var [.i op, .i hd, .i m, .sl false (Tm.cellsL args)]]) =
        if Tm.formedL (args.drop i) (d + 1) then some (.exit 1, [], [.var [.i op, .i hd, .i m, .sl false (Tm.cellsL args)]]) else some (.ret, [(4, .b false)], [.var [.i op, .i hd, .i m, .sl false (Tm.cellsL args)]]) := by
  intro k
  have e3 : args.length < 2 ^ 63 := by unfold maxLen at hlen; omega
  induction k with
  | zero =>
    intro i hi
    rw [LO_eq]
    have e1 : ¬ ((i : Int) < args.length) := by omega
    simp [ir_ref03_formedL0, e1, drop_end hi, e3, Tm.formedL]
  | succ k ihk =>
    intro i hi
    rw [LO_eq]
    obtain ⟨t, ht, htm, e2⟩ := get_some (l := args) (i := i) (by omega)
    have e1 : ((i : Int) < args.length) := by omega
    have hw3 : IntKind.i64.wrap ((i : Int) + 1) = (i : Int) + 1 := wrap_small _ (by omega) (by omega)
    have hw1 : IntKind.i64.wrap (d + 1) = d + 1 := wrap_small _ (by omega) (by omega)
    have hth := ihk (i + 1) (by omega)
    push_cast at hth
    generalize LO TT HH [0] ir_ref03_formedL0 = F at hth ⊢
    have hc := RR_of (ih t htm (d + 1) (by omega) (by omega)) (by simp) (by simp)
    cases hf : t.formed (d + 1) <;> rw [hf] at hc <;> simp [ir_ref03_formedL0, e1, e2, e3, ht, hc, hw1, hw3, hth, Tm.formedL, hf]

set_option maxHeartbeats 2000000 in
theorem formed_spec : ∀ t : Tm, t.ok → ∀ d : Int, 0 ≤ d → d ≤ 41 → runV TT HH [] n_ref03_formed [t.enc, .i d] [] = some (.ret (.b (t.formed d)), []) :=
  Tm.ind fun op hd n args ih hok d h0 h1 => by
    rw [eq_ref03_formed]
    unfold Tm.ok at hok
    have hargs := Tm.okL_mem.1 hok.2.2.2.2
    have e3 : args.length < 2 ^ 63 := by have := hok.2.2.2.1; unfold maxLen at this; omega
    by_cases hd40 : d ≤ 40
    · have hl := formed_loop args op hd n d hok.2.2.2.1 h0 hd40 (fun t ht => ih t ht (hargs t ht)) args.length 0 (by omega)
      have g1 : ¬ (40 < d) := by omega
      clear ih hok hargs
      obtain ⟨ln, hln⟩ : ∃ ln, args.length = ln := ⟨_, rfl⟩
      rw [hln] at e3
      have main : ∀ F : Bool, Tm.formedL args (d + 1) = F → callF TT HH ir_ref03_formed [] [(Tm.mk op hd n args).enc, PV.i d] [] = some (Out.ret (PV.b (shape op hd n ln && F)), []) := by
        intro F hf
        by_cases p1 : op = 1
        · subst p1
          by_cases q1 : ln = 0 <;> by_cases q2 : hd = 0 <;> by_cases q3 : n = 0 <;> cases F <;> simp [hf, q2, q3] at hl <;> simp [ir_ref03_formed, Tm.enc, Tm.cells, shape, g1, hln, q1, q2, q3, hl, e3]
        by_cases p2 : op = 2
        · subst p2
          by_cases q1 : (ln : Int) = 2 <;> by_cases q2 : hd = 0 <;> by_cases q3 : n = 0 <;> cases F <;> simp [hf, q2, q3] at hl <;> simp [ir_ref03_formed, Tm.enc, Tm.cells, shape, g1, hln, q1, q2, q3, hl, e3]
        by_cases p3 : op = 3
        · subst p3
          by_cases q1 : (ln : Int) = 1 <;> by_cases q2 : hd = 0 <;> by_cases q3 : n = 0 <;> cases F <;> simp [hf, q2, q3] at hl <;> simp [ir_ref03_formed, Tm.enc, Tm.cells, shape, g1, hln, q1, q2, q3, hl, e3]
        by_cases p4 : op = 4
        · subst p4
          by_cases q1 : hd < 1
          · have q1' : ¬ (1 ≤ hd) := by omega
            simp [ir_ref03_formed, Tm.enc, Tm.cells, shape, g1, hln, q1, q1', e3]
          have q1' : 1 ≤ hd := by omega
          by_cases q2 : 3 < hd
          · have q2' : ¬ (hd ≤ 3) := by omega
            simp [ir_ref03_formed, Tm.enc, Tm.cells, shape, g1, hln, q1, q1', q2, q2', e3]
          have q2' : hd ≤ 3 := by omega
          by_cases q3 : n < 0
          · have q3' : ¬ (0 ≤ n) := by omega
            simp [ir_ref03_formed, Tm.enc, Tm.cells, shape, g1, hln, q1, q1', q2, q2', q3, q3', e3]
          have q3' : 0 ≤ n := by omega
          by_cases q4 : 9999 < n
          · have q4' : ¬ (n ≤ 9999) := by omega
            simp [ir_ref03_formed, Tm.enc, Tm.cells, shape, g1, hln, q1, q1', q2, q2', q3, q3', q4, q4', e3]
          have q4' : n ≤ 9999 := by omega
          cases F <;> simp [hf] at hl <;> simp [ir_ref03_formed, Tm.enc, Tm.cells, shape, g1, hln, q1, q1', q2, q2', q3, q3', q4, q4', e3, hl]
        simp [ir_ref03_formed, Tm.enc, Tm.cells, shape, g1, p1, p2, p3, p4]
      rw [main _ rfl, Tm.formed, hln]
      simp [hd40]
    · have g1 : 40 < d := by omega
      simp [ir_ref03_formed, Tm.enc, Tm.cells, Tm.formed, g1, hd40]
end Go.Ev

/- ref03.Proper, ref21.object, ref21.Object, ref21.Key. -/
namespace Go.Ev
set_option linter.unusedSimpArgs false
set_option linter.unusedVariables false

def Tm.proper (t : Tm) : Bool := decide (t.nodes ≤ 600) && t.formed 1

theorem proper_spec (t : Tm) (h : t.ok) : runV TT HH [] n_ref03_Proper [t.enc] [] = some (.ret (.b t.proper), []) := by
  rw [eq_ref03_Proper]
  have h1 := RR_of (rnodes_spec t h 600 (by omega) (by omega)) (by simp) (by simp)
  have h2 := RR_of (formed_spec t h 1 (by omega) (by omega)) (by simp) (by simp)
  have h3 := rnodes_eq t 600 (by omega)
  by_cases hn : t.nodes ≤ 600
  · have h4 : t.rnodes 600 ≤ 600 := by omega
    simp [ir_ref03_Proper, h1, h2, h4, Tm.proper, hn]
  · have h4 : ¬ t.rnodes 600 ≤ 600 := by omega
    simp [ir_ref03_Proper, h1, h2, h4, Tm.proper, hn]

mutual
def Tm.plain : Tm → Bool
  | .mk op hd _ args => (decide (op = 3) || (decide (op = 4) && !decide (hd = 3))) && Tm.plainL args
def Tm.plainL : List Tm → Bool
  | [] => true
  | t :: r => t.plain && Tm.plainL r
end

theorem object_loop (args : List Tm) (op hd m : Int) (hlen : args.length ≤ maxLen) (ih : ∀ t ∈ args, runV TT HH [] n_ref21_object [t.enc] [] = some (.ret (.b t.plain), [])) :
    ∀ (k i : Nat), i + k = args.length →
      LO TT HH [0] ir_ref21_objectL0 ([(1, .ptr 0 0), (3, .i i)], [.var [.i op, .i hd, .i m, .sl false (Tm.cellsL args)]]) =
        if Tm.plainL (args.drop i) then some (.exit 0, [], [.var [.i op, .i hd, .i m, .sl false (Tm.cellsL args)]]) else some (.ret, [(2, .b false)], [.var [.i op, .i hd, .i m, .sl false (Tm.cellsL args)]]) := by
  intro k
  have e3 : args.length < 2 ^ 63 := by unfold maxLen at hlen; omega
  induction k with
  | zero =>
    intro i hi
    rw [LO_eq]
    have e1 : ¬ ((i : Int) < args.length) := by omega
    simp [ir_ref21_objectL0, e1, drop_end hi, e3, Tm.plainL]
  | succ k ihk =>
    intro i hi
    rw [LO_eq]
    obtain ⟨t, ht, htm, e2⟩ := get_some (l := args) (i := i) (by omega)
    have e1 : ((i : Int) < args.length) := by omega
    have hw3 : IntKind.i64.wrap ((i : Int) + 1) = (i : Int) + 1 := wrap_small _ (by omega) (by omega)
    have hth := ihk (i + 1) (by omega)
    push_cast at hth
    generalize LO TT HH [0] ir_ref21_objectL0 = F at hth ⊢
    have hc := RR_of (ih t htm) (by simp) (by simp)
    cases hf : t.plain <;> rw [hf] at hc <;> simp [ir_ref21_objectL0, e1, e2, e3, ht, hc, hw3, hth, Tm.plainL, hf]

theorem object_spec : ∀ t : Tm, t.ok → runV TT HH [] n_ref21_object [t.enc] [] = some (.ret (.b t.plain), []) :=
  Tm.ind fun op hd n args ih hok => by
    rw [eq_ref21_object]
    unfold Tm.ok at hok
    have hargs := Tm.okL_mem.1 hok.2.2.2.2
    have hl := object_loop args op hd n hok.2.2.2.1 (fun t ht => ih t ht (hargs t ht)) args.length 0 (by omega)
    simp at hl
    by_cases p1 : op = 3
    · subst p1
      cases hf : Tm.plainL args <;> simp [hf] at hl <;> simp [ir_ref21_object, Tm.enc, Tm.cells, Tm.plain, hf, hl]
    · by_cases p2 : op = 4
      · subst p2
        by_cases p3 : hd = 3
        · subst p3
          simp [ir_ref21_object, Tm.enc, Tm.cells, Tm.plain]
        · cases hf : Tm.plainL args <;> simp [hf] at hl <;> simp [ir_ref21_object, Tm.enc, Tm.cells, Tm.plain, hf, hl, p3]
      · simp [ir_ref21_object, Tm.enc, Tm.cells, Tm.plain, p1, p2]

def Tm.obj (t : Tm) : Bool := t.proper && t.plain

theorem Object_spec (t : Tm) (h : t.ok) : runV TT HH [] n_ref21_Object [t.enc] [] = some (.ret (.b t.obj), []) := by
  rw [eq_ref21_Object]
  have h1 := RR_of (proper_spec t h) (by simp) (by simp)
  have h2 := RR_of (object_spec t h) (by simp) (by simp)
  cases hp : t.proper <;> rw [hp] at h1 <;> simp [ir_ref21_Object, h1, h2, Tm.obj, hp]

mutual
def Tm.key : Tm → List Int
  | .mk op hd n args => (if op = 4 then if hd = 1 then IntKind.i64.wrap (1 + n) else IntKind.i64.wrap (1000 + n) else 0) :: Tm.keyL args
def Tm.keyL : List Tm → List Int
  | [] => []
  | t :: r => t.key ++ Tm.keyL r
end
mutual
theorem key_len : ∀ t : Tm, t.key.length = t.nodes
  | .mk op hd n args => by
    unfold Tm.key Tm.nodes
    simp [keyL_len args]; omega
theorem keyL_len : ∀ l : List Tm, (Tm.keyL l).length = Tm.nodesL l
  | [] => rfl
  | t :: r => by unfold Tm.keyL Tm.nodesL; simp [key_len t, keyL_len r]
end
end Go.Ev

/- ref21.Key, enum.key, law21.ints. -/
namespace Go.Ev
set_option linter.unusedSimpArgs false
set_option linter.unusedVariables false

theorem key_pos (t : Tm) : 0 < t.key.length := by rw [key_len]; exact nodes_pos t
theorem lim_le {n : Nat} (h : n ≤ 100000) : n ≤ LIM := by unfold LIM; omega

theorem rkey_loop (args : List Tm) (c : List PV) (hc3 : c[3]? = some (.sl false (Tm.cellsL args))) (hc4 : c.length = 4) (hlen : args.length ≤ maxLen) (ih : ∀ t ∈ args, t.nodes ≤ 100000 → runV TT HH [] n_ref21_Key [t.enc] [] = some (.ret (.sl false (ints t.key)), [])) :
    ∀ (k i m : Nat) (l : List Int), i + k = args.length → l.length + Tm.nodesL (args.drop i) ≤ 100000 →
      ∃ m', LO TT HH [0] ir_ref21_KeyL0 ([(1, .ptr 0 0), (4, .ow 1 m (ints l)), (5, .i i)], [.var c, .tok 1 m]) =
        some (.exit 1, [(4, .ow 1 m' (ints (l ++ Tm.keyL (args.drop i))))], [.var c, .tok 1 m']) := by
  intro k
  obtain ⟨a0, a1, a2, rfl⟩ : ∃ a0 a1 a2, c = [a0, a1, a2, .sl false (Tm.cellsL args)] := by
    match c, hc4, hc3 with
    | [a, b, d, e], _, h => simp at h; exact ⟨a, b, d, by rw [h]⟩
  have e3 : args.length < 2 ^ 63 := by unfold maxLen at hlen; omega
  induction k with
  | zero =>
    intro i m l hi h0
    rw [LO_eq]
    have e1 : ¬ ((i : Int) < args.length) := by omega
    refine ⟨m, ?_⟩
    simp [ir_ref21_KeyL0, e1, drop_end hi, e3, Tm.keyL]
  | succ k ihk =>
    intro i m l hi h0
    rw [LO_eq]
    obtain ⟨t, ht, htm, e2⟩ := get_some (l := args) (i := i) (by omega)
    have e1 : ((i : Int) < args.length) := by omega
    have hw3 : IntKind.i64.wrap ((i : Int) + 1) = (i : Int) + 1 := wrap_small _ (by omega) (by omega)
    rw [e2, Tm.nodesL] at h0
    have hk := key_len t
    obtain ⟨m', hth⟩ := ihk (i + 1) (m + t.key.length) (l ++ t.key) (by omega) (by simp only [List.length_append]; omega)
    refine ⟨m', ?_⟩
    push_cast at hth
    generalize LO TT HH [0] ir_ref21_KeyL0 = F at hth ⊢
    have hc := RR_of (ih t htm (by omega)) (by simp) (by simp)
    have hp := key_pos t
    have hlim : l.length + t.key.length ≤ LIM := lim_le (by omega)
    simp [ir_ref21_KeyL0, e1, e2, e3, ht, hc, hw3, hth, Tm.keyL, hp, hlim, List.append_assoc]

theorem rkey_spec : ∀ t : Tm, t.ok → t.nodes ≤ 100000 → runV TT HH [] n_ref21_Key [t.enc] [] = some (.ret (.sl false (ints t.key)), []) :=
  Tm.ind fun op hd n args ih hok hn => by
    rw [eq_ref21_Key]
    unfold Tm.ok at hok
    unfold Tm.nodes at hn
    have hargs := Tm.okL_mem.1 hok.2.2.2.2
    have hl := rkey_loop args [.i op, .i hd, .i n, .sl false (Tm.cellsL args)] rfl rfl hok.2.2.2.1 (fun t ht => ih t ht (hargs t ht)) args.length 0 0
    by_cases p1 : op = 4
    · subst p1
      by_cases p2 : hd = 1
      · subst p2
        obtain ⟨m', hl⟩ := hl [IntKind.i64.wrap (1 + n)] (by omega) (by simpa using hn)
        simp at hl
        simp [ir_ref21_Key, Tm.enc, Tm.cells, Tm.key, hl]
      · obtain ⟨m', hl⟩ := hl [IntKind.i64.wrap (1000 + n)] (by omega) (by simpa using hn)
        simp at hl
        simp [ir_ref21_Key, Tm.enc, Tm.cells, Tm.key, hl, p2]
    · obtain ⟨m', hl⟩ := hl [0] (by omega) (by simpa using hn)
      simp at hl
      simp [ir_ref21_Key, Tm.enc, Tm.cells, Tm.key, hl, p1]
end Go.Ev

/- enum.key, law21.ints. -/
namespace Go.Ev
set_option linter.unusedSimpArgs false
set_option linter.unusedVariables false

theorem ekey_loop (args : List Tm) (c : List PV) (hc3 : c[3]? = some (.sl false (Tm.cellsL args))) (hc4 : c.length = 4) (hlen : args.length ≤ maxLen) (ih : ∀ t ∈ args, t.nodes ≤ 100000 → runV TT HH [] n_enum_key [t.enc] [] = some (.ret (.sl false (ints t.key)), [])) :
    ∀ (k i m : Nat) (l : List Int), i + k = args.length → l.length + Tm.nodesL (args.drop i) ≤ 100000 →
      ∃ m', LO TT HH [0] ir_enum_keyL0 ([(3, .rs 1 m 0 l.length), (31, .sl false (Tm.cellsL args)), (32, .i args.length), (33, .i i)], [.var c, .arr m 1 (ints l)]) =
        some (.exit 1, [(3, .rs 1 m' 0 (l ++ Tm.keyL (args.drop i)).length)], [.var c, .arr m' 1 (ints (l ++ Tm.keyL (args.drop i)))]) := by
  intro k
  have e3 : args.length < 2 ^ 63 := by unfold maxLen at hlen; omega
  induction k with
  | zero =>
    intro i m l hi h0
    rw [LO_eq]
    have e1 : ¬ ((i : Int) < args.length) := by omega
    refine ⟨m, ?_⟩
    simp [ir_enum_keyL0, e1, drop_end hi, e3, Tm.keyL]
  | succ k ihk =>
    intro i m l hi h0
    rw [LO_eq]
    obtain ⟨t, ht, htm, e2⟩ := get_some (l := args) (i := i) (by omega)
    have e1 : ((i : Int) < args.length) := by omega
    have hw3 : IntKind.i64.wrap ((i : Int) + 1) = (i : Int) + 1 := wrap_small _ (by omega) (by omega)
    rw [e2, Tm.nodesL] at h0
    have hk := key_len t
    obtain ⟨m', hth⟩ := ihk (i + 1) (m + 1) (l ++ t.key) (by omega) (by simp only [List.length_append]; omega)
    refine ⟨m', ?_⟩
    push_cast at hth
    generalize LO TT HH [0] ir_enum_keyL0 = F at hth ⊢
    have hc := RR_of (ih t htm (by omega)) (by simp) (by simp)
    have hp := key_pos t
    have hlim : l.length + t.key.length ≤ LIM := lim_le (by omega)
    have htk : List.take l.length (ints l) = ints l := List.take_of_length_le (by simp)
    simp at hth
    simp [ir_enum_keyL0, e1, e2, e3, ht, hc, hw3, hth, Tm.keyL, hp, hlim, htk, List.append_assoc]

theorem ekey_spec : ∀ t : Tm, t.ok → t.nodes ≤ 100000 → runV TT HH [] n_enum_key [t.enc] [] = some (.ret (.sl false (ints t.key)), []) :=
  Tm.ind fun op hd n args ih hok hn => by
    rw [eq_enum_key]
    unfold Tm.ok at hok
    unfold Tm.nodes at hn
    have hargs := Tm.okL_mem.1 hok.2.2.2.2
    have e3 : args.length < 2 ^ 63 := by have := hok.2.2.2.1; unfold maxLen at this; omega
    have hl := ekey_loop args [.i op, .i hd, .i n, .sl false (Tm.cellsL args)] rfl rfl hok.2.2.2.1 (fun t ht => ih t ht (hargs t ht)) args.length 0 0
    have fin : ∀ x : Int, List.take ((Tm.keyL args).length + 1) ([PV.i x] :: ints (Tm.keyL args)) = [PV.i x] :: ints (Tm.keyL args) := fun x => List.take_of_length_le (by simp)
    by_cases p1 : op = 4
    · subst p1
      by_cases p2 : hd = 1
      · subst p2
        obtain ⟨m', hl⟩ := hl [IntKind.i64.wrap (1 + n)] (by omega) (by simpa using hn)
        simp at hl
        simp [ir_enum_key, Tm.enc, Tm.cells, Tm.key, hl, e3, fin]
      · obtain ⟨m', hl⟩ := hl [IntKind.i64.wrap (1000 + n)] (by omega) (by simpa using hn)
        simp at hl
        simp [ir_enum_key, Tm.enc, Tm.cells, Tm.key, hl, p2, e3, fin]
    · obtain ⟨m', hl⟩ := hl [0] (by omega) (by simpa using hn)
      simp at hl
      simp [ir_enum_key, Tm.enc, Tm.cells, Tm.key, hl, p1, e3, fin]

theorem ints_loop (a b : List Int) (hab : a.length = b.length) (hlen : a.length ≤ 100000) :
    ∀ (k i : Nat), i + k = a.length →
      LO TT HH [0] ir_law21_intsL0 ([(0, .sl false (ints a)), (1, .sl false (ints b)), (5, .i i)], []) =
        if a.drop i = b.drop i then some (.exit 0, [], []) else some (.ret, [(4, .b false)], []) := by
  intro k
  induction k with
  | zero =>
    intro i hi
    rw [LO_eq]
    have e1 : ¬ ((i : Int) < a.length) := by omega
    have e3 : a.length < 2 ^ 63 := by omega
    have e4 : i + 0 = b.length := by omega
    simp [ir_law21_intsL0, e1, drop_end hi, drop_end e4, e3]
  | succ k ihk =>
    intro i hi
    rw [LO_eq]
    obtain ⟨x, hx, -, ex⟩ := get_some (l := a) (i := i) (by omega)
    obtain ⟨y, hy, -, ey⟩ := get_some (l := b) (i := i) (by omega)
    have e1 : ((i : Int) < a.length) := by omega
    have e3 : a.length < 2 ^ 63 := by omega
    have hw3 : IntKind.i64.wrap ((i : Int) + 1) = (i : Int) + 1 := wrap_small _ (by omega) (by omega)
    have hth := ihk (i + 1) (by omega)
    push_cast at hth
    generalize LO TT HH [0] ir_law21_intsL0 = F at hth ⊢
    by_cases hxy : x = y
    · subst hxy
      simp [ir_law21_intsL0, e1, ex, ey, e3, hx, hy, hw3, hth]
    · simp [ir_law21_intsL0, e1, ex, ey, e3, hx, hy, hw3, hth, hxy]

theorem ints_spec (a b : List Int) (ha : a.length ≤ 100000) (hb : b.length ≤ 100000) : runV TT HH [] n_law21_ints [.sl false (ints a), .sl false (ints b)] [] = some (.ret (.b (decide (a = b))), []) := by
  rw [eq_law21_ints]
  have e3 : a.length < 2 ^ 63 := by omega
  have e4 : b.length < 2 ^ 63 := by omega
  by_cases hab : a.length = b.length
  · have hl := ints_loop a b hab ha a.length 0 (by omega)
    by_cases he : a = b
    · simp [he] at hl
      simp [ir_law21_ints, he, hl, e4]
    · simp [he] at hl
      simp [ir_law21_ints, he, hl, e3, e4, hab]
  · have hab' : ¬ ((a.length : Int) = (b.length : Int)) := by omega
    have he : a ≠ b := fun h => hab (by rw [h])
    simp [ir_law21_ints, he, e3, e4, hab, hab']
end Go.Ev

/- ref21.Before, slices.Compare, enum.before. -/
namespace Go.Ev
set_option linter.unusedSimpArgs false
set_option linter.unusedVariables false

def lexLt : List Int → List Int → Bool
  | a :: r, b :: s => if a = b then lexLt r s else decide (a < b)
  | _, _ => false
def lexCmp : List Int → List Int → Int
  | [], [] => 0
  | [], _ :: _ => -1
  | _ :: _, [] => 1
  | a :: r, b :: s => if a < b then -1 else if b < a then 1 else lexCmp r s

theorem lexCmp_lt : ∀ (a b : List Int), a.length = b.length → decide (lexCmp a b < 0) = lexLt a b
  | [], [], _ => rfl
  | [], _ :: _, h => by simp at h
  | _ :: _, [], h => by simp at h
  | a :: r, b :: s, h => by
    unfold lexCmp lexLt
    have ih := lexCmp_lt r s (by simpa using h)
    by_cases h1 : a < b
    · have : a ≠ b := by omega
      simp [h1, this]
    · by_cases h2 : b < a
      · have : a ≠ b := by omega
        simp [h1, h2, this]
      · have : a = b := by omega
        simp [this, ih]

def beforeR (x y : List Int) : Bool := if x.length = y.length then lexLt x y else decide (x.length < y.length)

theorem rbefore_loop (a b : List Int) (hab : a.length = b.length) (hlen : a.length ≤ 100000) (σ : Sto) (bars : List Nat) :
    ∀ (k i : Nat), i + k = a.length →
      LO TT HH bars ir_ref21_BeforeL0 ([(5, .sl false (ints a)), (6, .sl false (ints b)), (7, .i i)], σ) =
        if a.drop i = b.drop i then some (.exit 0, [], σ) else some (.ret, [(4, .b (lexLt (a.drop i) (b.drop i)))], σ) := by
  intro k
  induction k with
  | zero =>
    intro i hi
    rw [LO_eq]
    have e1 : ¬ ((i : Int) < a.length) := by omega
    have e3 : a.length < 2 ^ 63 := by omega
    have e4 : i + 0 = b.length := by omega
    simp [ir_ref21_BeforeL0, e1, drop_end hi, drop_end e4, e3]
  | succ k ihk =>
    intro i hi
    rw [LO_eq]
    obtain ⟨x, hx, -, ex⟩ := get_some (l := a) (i := i) (by omega)
    obtain ⟨y, hy, -, ey⟩ := get_some (l := b) (i := i) (by omega)
    have e1 : ((i : Int) < a.length) := by omega
    have e3 : a.length < 2 ^ 63 := by omega
    have hw3 : IntKind.i64.wrap ((i : Int) + 1) = (i : Int) + 1 := wrap_small _ (by omega) (by omega)
    have hth := ihk (i + 1) (by omega)
    push_cast at hth
    generalize LO TT HH bars ir_ref21_BeforeL0 = F at hth ⊢
    by_cases hxy : x = y
    · subst hxy
      simp [ir_ref21_BeforeL0, e1, ex, ey, e3, hx, hy, hw3, hth, lexLt]
    · simp [ir_ref21_BeforeL0, e1, ex, ey, e3, hx, hy, hw3, hth, hxy, lexLt]

theorem lexLt_self : ∀ a : List Int, lexLt a a = false
  | [] => rfl
  | a :: r => by simp [lexLt, lexLt_self r]

theorem rbefore_spec (s t : Tm) (hs : s.ok) (ht : t.ok) (ns : s.nodes ≤ 100000) (nt : t.nodes ≤ 100000) : runV TT HH [] n_ref21_Before [s.enc, t.enc] [] = some (.ret (.b (beforeR s.key t.key)), []) := by
  rw [eq_ref21_Before]
  have h1 := RR_of (rkey_spec s hs ns) (by simp) (by simp)
  have h2 := RR_of (rkey_spec t ht nt) (by simp) (by simp)
  have hks := key_len s
  have hkt := key_len t
  have e3 : s.key.length < 2 ^ 63 := by omega
  have e4 : t.key.length < 2 ^ 63 := by omega
  by_cases hab : s.key.length = t.key.length
  · have hl := rbefore_loop s.key t.key hab (by omega) [.var s.cells, .var t.cells] [0] s.key.length 0 (by omega)
    have hab' : (s.key.length : Int) = (t.key.length : Int) := by omega
    simp at hl
    by_cases he : s.key = t.key
    · simp [he] at hl
      simp [ir_ref21_Before, h1, h2, he, hl, e4, beforeR, lexLt_self]
    · simp [he] at hl
      simp [ir_ref21_Before, h1, h2, he, hl, e3, e4, beforeR, hab, hab']
  · have hab' : ¬ ((s.key.length : Int) = (t.key.length : Int)) := by omega
    simp [ir_ref21_Before, h1, h2, e3, e4, beforeR, hab, hab']

theorem isNaN_spec (n : Int) : runV TT HH [] n_cmp_isNaN_int [.i n] [] = some (.ret (.b false), []) := by
  rw [eq_cmp_isNaN_int]
  simp [ir_cmp_isNaN_int]

theorem cmp_spec (a b : Int) : runV TT HH [] n_cmp_Compare_int [.i a, .i b] [] = some (.ret (.i (if a < b then -1 else if b < a then 1 else 0)), []) := by
  rw [eq_cmp_Compare_int]
  have h1 := fun n => RR_of (isNaN_spec n) (by simp) (by simp)
  by_cases p1 : a < b
  · simp [ir_cmp_Compare_int, h1, p1]
  · by_cases p2 : b < a
    · simp [ir_cmp_Compare_int, h1, p1, p2]
    · simp [ir_cmp_Compare_int, h1, p1, p2]

theorem compare_loop (a b : List Int) (hlen : a.length ≤ 100000) (hlb : b.length ≤ 100000) :
    ∀ (k i : Nat), i + k = a.length → i ≤ b.length →
      LO TT HH [0] ir_slices_Compare_of_int_intL0 ([(0, .sl false (ints a)), (1, .sl false (ints b)), (9, .sl false (ints a)), (10, .i a.length), (11, .i i)], []) =
        if (b.drop i).take (a.length - i) = a.drop i then some (.exit 0, [(0, .sl false (ints a)), (1, .sl false (ints b))], []) else some (.ret, [(4, .i (lexCmp (a.drop i) (b.drop i)))], []) := by
  intro k
  induction k with
  | zero =>
    intro i hi hib
    rw [LO_eq]
    have e1 : ¬ ((i : Int) < a.length) := by omega
    have e3 : a.length < 2 ^ 63 := by omega
    have e5 : a.length - i = 0 := by omega
    simp [ir_slices_Compare_of_int_intL0, e1, drop_end hi, e3, e5]
  | succ k ihk =>
    intro i hi hib
    rw [LO_eq]
    obtain ⟨x, hx, -, ex⟩ := get_some (l := a) (i := i) (by omega)
    have e1 : ((i : Int) < a.length) := by omega
    have e3 : a.length < 2 ^ 63 := by omega
    have e4 : b.length < 2 ^ 63 := by omega
    have hw3 : IntKind.i64.wrap ((i : Int) + 1) = (i : Int) + 1 := wrap_small _ (by omega) (by omega)
    have e6 : a.length - i = (a.length - (i + 1)) + 1 := by omega
    by_cases hb : i < b.length
    · obtain ⟨y, hy, -, ey⟩ := get_some (l := b) (i := i) hb
      have hth := ihk (i + 1) (by omega) (by omega)
      push_cast at hth
      generalize LO TT HH [0] ir_slices_Compare_of_int_intL0 = F at hth ⊢
      have hc := RR_of (cmp_spec x y) (by simp) (by simp)
      have hb1 : ¬ ((b.length : Int) ≤ (i : Int)) := by omega
      by_cases p1 : x < y
      · have p3 : ¬ (y = x) := by omega
        simp [p1] at hc
        simp [ir_slices_Compare_of_int_intL0, e1, ex, ey, e3, e4, hx, hy, hb1, hw3, hc, p1, p3, lexCmp, e6]
      · by_cases p2 : y < x
        · have p3 : ¬ (y = x) := by omega
          simp [p1, p2] at hc
          simp [ir_slices_Compare_of_int_intL0, e1, ex, ey, e3, e4, hx, hy, hb1, hw3, hc, p1, p2, p3, lexCmp, e6]
        · have p3 : y = x := by omega
          subst p3
          simp at hc
          simp [ir_slices_Compare_of_int_intL0, e1, ex, ey, e3, e4, hx, hy, hb1, hw3, hc, hth, lexCmp, e6]
    · have hb1 : ((b.length : Int) ≤ (i : Int)) := by omega
      have hd : b.drop i = [] := List.drop_eq_nil_of_le (by omega)
      simp [ir_slices_Compare_of_int_intL0, e1, ex, hd, e3, e4, hx, hb1, hw3, lexCmp, e6]

theorem lexCmp_prefix : ∀ a b : List Int, b.take a.length = a → lexCmp a b = if a.length < b.length then -1 else 0
  | [], [], _ => rfl
  | [], _ :: _, _ => by simp [lexCmp]
  | a :: r, [], h => by simp at h
  | a :: r, b :: s, h => by
    simp at h
    obtain ⟨rfl, h⟩ := h
    simp [lexCmp, lexCmp_prefix r s h]

theorem compare_spec (a b : List Int) (ha : a.length ≤ 100000) (hb : b.length ≤ 100000) : runV TT HH [] n_slices_Compare_of_int_int [.sl false (ints a), .sl false (ints b)] [] = some (.ret (.i (lexCmp a b)), []) := by
  rw [eq_slices_Compare_of_int_int]
  have e3 : a.length < 2 ^ 63 := by omega
  have e4 : b.length < 2 ^ 63 := by omega
  have hl := compare_loop a b ha hb a.length 0 (by omega) (by omega)
  simp at hl
  by_cases he : b.take a.length = a
  · simp [he] at hl
    have hp := lexCmp_prefix a b he
    by_cases hlt : a.length < b.length
    · have hlt' : (a.length : Int) < (b.length : Int) := by omega
      simp [ir_slices_Compare_of_int_int, hl, e3, e4, hp, hlt, hlt']
    · have hlt' : ¬ (a.length : Int) < (b.length : Int) := by omega
      simp [ir_slices_Compare_of_int_int, hl, e3, e4, hp, hlt, hlt']
  · simp [he] at hl
    simp [ir_slices_Compare_of_int_int, hl, e3, e4]

theorem ebefore_spec (s t : Tm) (hs : s.ok) (ht : t.ok) (ns : s.nodes ≤ 100000) (nt : t.nodes ≤ 100000) : runV TT HH [] n_enum_before [s.enc, t.enc] [] = some (.ret (.b (beforeR s.key t.key)), []) := by
  rw [eq_enum_before]
  have h1 := RR_of (enodes_spec s hs ns) (by simp) (by simp)
  have h2 := RR_of (enodes_spec t ht nt) (by simp) (by simp)
  have h3 := RR_of (ekey_spec s hs ns) (by simp) (by simp)
  have h4 := RR_of (ekey_spec t ht nt) (by simp) (by simp)
  have hks := key_len s
  have hkt := key_len t
  have h5 := RR_of (compare_spec s.key t.key (by omega) (by omega)) (by simp) (by simp)
  by_cases p1 : s.nodes < t.nodes
  · have p1' : (s.nodes : Int) < (t.nodes : Int) := by omega
    have p2 : ¬ s.nodes = t.nodes := by omega
    simp [ir_enum_before, h1, h2, p1, p1', beforeR, hks, hkt, p2]
  · have p1' : ¬ (s.nodes : Int) < (t.nodes : Int) := by omega
    by_cases p2 : s.nodes = t.nodes
    · have p2' : (s.nodes : Int) = (t.nodes : Int) := by omega
      have hq := lexCmp_lt s.key t.key (by omega)
      simp [ir_enum_before, h1, h2, h3, h4, h5, p1, p1', beforeR, hks, hkt, p2, p2', hq]
    · have p2' : ¬ (s.nodes : Int) = (t.nodes : Int) := by omega
      simp [ir_enum_before, h1, h2, h3, h4, h5, p1, p1', beforeR, hks, hkt, p2, p2']
end Go.Ev
