/- term.proper, term.Check. -/
import Derived.Test.YtfgcfaggklbpfaaGreatDoorEvS
import Derived.Test.YtfgcfaggklbpfaaGreatDoorEvF
set_option linter.unnecessarySimpa false
set_option linter.unusedVariables false
set_option linter.unusedSimpArgs false
set_option linter.unusedSectionVars false
namespace Go.Ev
set_option linter.unusedSimpArgs false
set_option linter.unusedVariables false

mutual
def Tm.pr : Tm → Int → Int → Bool × Int
  | .mk op hd n args, d, c => if 600 < c + 1 ∨ 40 < d then (false, c + 1) else Tm.prL args (d + 1) (c + 1) (shape op hd n args.length)
def Tm.prL : List Tm → Int → Int → Bool → Bool × Int
  | [], _, c, ok => (ok, c)
  | t :: r, d, c, ok => if ok then Tm.prL r d (t.pr d c).2 (t.pr d c).1 else (false, c)
end

theorem prL_false (l : List Tm) (d c : Int) : Tm.prL l d c false = (false, c) := by cases l <;> simp [Tm.prL]

mutual
theorem pr_eq : ∀ (t : Tm) (d c : Int), 0 ≤ c → (t.pr d c).1 = (decide (c + t.nodes ≤ 600) && t.formed d) ∧ ((t.pr d c).1 = true → (t.pr d c).2 = c + t.nodes) ∧ c ≤ (t.pr d c).2 ∧ (t.pr d c).2 ≤ c + t.nodes
  | .mk op hd n args, d, c, h0 => by
    unfold Tm.pr Tm.formed Tm.nodes
    push_cast
    split
    · rename_i h
      refine ⟨?_, by simp, by simp; omega, by simp; omega⟩
      rcases h with h | h
      · have : ¬ (c + (1 + (Tm.nodesL args : Int)) ≤ 600) := by omega
        simp [this]
      · have : ¬ (d ≤ 40) := by omega
        simp [this]
    · rename_i h
      have h40 : d ≤ 40 := by omega
      obtain ⟨h1, h2, h3, h4⟩ := prL_eq args (d + 1) (c + 1) (shape op hd n args.length) (by omega) (by omega)
      refine ⟨?_, fun hh => by have := h2 hh; omega, by omega, by omega⟩
      rw [h1]
      have e : (c + 1 + (Tm.nodesL args : Int) ≤ 600) = (c + (1 + (Tm.nodesL args : Int)) ≤ 600) := by rw [Int.add_assoc]
      simp only [e, h40, decide_true, Bool.true_and]
      cases shape op hd n args.length <;> simp
theorem prL_eq : ∀ (l : List Tm) (d c : Int) (ok : Bool), 0 ≤ c → c ≤ 600 → (Tm.prL l d c ok).1 = (ok && (decide (c + Tm.nodesL l ≤ 600) && Tm.formedL l d)) ∧ ((Tm.prL l d c ok).1 = true → (Tm.prL l d c ok).2 = c + Tm.nodesL l) ∧ c ≤ (Tm.prL l d c ok).2 ∧ (Tm.prL l d c ok).2 ≤ c + Tm.nodesL l
  | [], d, c, ok, h0, h1 => by
    unfold Tm.prL Tm.nodesL Tm.formedL
    simp [h1]
  | t :: r, d, c, ok, h0, h1 => by
    unfold Tm.prL Tm.nodesL Tm.formedL
    push_cast
    cases ok with
    | false => simp; omega
    | true =>
      simp only [if_true, Bool.true_and]
      obtain ⟨g1, g2, g3, g4⟩ := pr_eq t d c h0
      cases hp : (t.pr d c).1 with
      | false =>
        rw [prL_false]
        rw [hp] at g1
        refine ⟨?_, by simp, by simp; omega, by simp; omega⟩
        by_cases hn : c + t.nodes ≤ 600
        · simp [hn] at g1
          simp [g1]
        · have : ¬ (c + ((t.nodes : Int) + (Tm.nodesL r : Int)) ≤ 600) := by omega
          simp [this]
      | true =>
        rw [hp] at g1
        have g2 := g2 hp
        have g1' := g1.symm
        simp only [Bool.and_eq_true, decide_eq_true_eq] at g1'
        rw [g2]
        obtain ⟨k1, k2, k3, k4⟩ := prL_eq r d (c + t.nodes) true (by omega) (by omega)
        refine ⟨?_, fun hh => by have := k2 hh; omega, by omega, by omega⟩
        rw [k1, g1'.2, Int.add_assoc]
        simp
end

theorem pr_proper (t : Tm) : (t.pr 1 0).1 = t.proper := by
  rw [(pr_eq t 1 0 (by omega)).1]
  unfold Tm.proper
  rw [show decide ((0 : Int) + (t.nodes : Int) ≤ 600) = decide (t.nodes ≤ 600) from decide_eq_decide.2 (by omega)]

theorem pr_loop (args : List Tm) (op hd m : Int) (p L : Nat) (d : Int) (hlen : args.length ≤ maxLen) (hd0 : 0 ≤ d) (hd1 : d ≤ 40)
    (ih : ∀ t ∈ args, ∀ (bars : List Nat) (σ : Sto) (d c : Int), 0 ≤ d → d ≤ 41 → 0 ≤ c → c + t.nodes ≤ 100000 → σ[p]? = some (.var [.i c]) → runV TT HH bars n_term_proper [t.enc, .i d, .ptr p 0] σ = some (.ret (.b (t.pr d c).1), σ.set p (.var [.i (t.pr d c).2]))) :
    ∀ (k i : Nat) (bars : List Nat) (σ : Sto) (c : Int) (ok : Bool), i + k = args.length → σ.length = L → 0 ≤ c → c + Tm.nodesL (args.drop i) ≤ 100000 → σ[p]? = some (.var [.i c]) →
      LO TT HH bars ir_term_properL0 ([(1, .i d), (2, .ptr p 0), (3, .ptr L 0), (7, .i args.length), (8, .b ok), (9, .i i)], σ ++ [.var [.i op, .i hd, .i m, .sl false (Tm.cellsL args)]]) =
        some (.exit 1, [(8, .b (Tm.prL (args.drop i) (d + 1) c ok).1)], σ.set p (.var [.i (Tm.prL (args.drop i) (d + 1) c ok).2]) ++ [.var [.i op, .i hd, .i m, .sl false (Tm.cellsL args)]]) := by
  intro k
  have e3 : args.length < 2 ^ 63 := by unfold maxLen at hlen; omega
  induction k with
  | zero =>
    intro i bars σ c ok hi hL h0 h1 hp
    rw [LO_eq]
    have e1 : ¬ ((i : Int) < args.length) := by omega
    have htk : (σ ++ [Ob.var [.i op, .i hd, .i m, .sl false (Tm.cellsL args)]]).take (σ.length + 1) = σ ++ [Ob.var [.i op, .i hd, .i m, .sl false (Tm.cellsL args)]] := List.take_of_length_le (by simp)
    simp [ir_term_properL0, e1, drop_end hi, e3, Tm.prL, set_self hp, htk]
  | succ k ihk =>
    intro i bars σ c ok hi hL h0 h1 hp
    rw [LO_eq]
    obtain ⟨t, ht, htm, e2⟩ := get_some (l := args) (i := i) (by omega)
    have e1 : ((i : Int) < args.length) := by omega
    have hw3 : IntKind.i64.wrap ((i : Int) + 1) = (i : Int) + 1 := wrap_small _ (by omega) (by omega)
    have hw1 : IntKind.i64.wrap (d + 1) = d + 1 := wrap_small _ (by omega) (by omega)
    have htk : ∀ σ : Sto, σ.length = L → (σ ++ [Ob.var [.i op, .i hd, .i m, .sl false (Tm.cellsL args)]]).take (L + 1) = σ ++ [Ob.var [.i op, .i hd, .i m, .sl false (Tm.cellsL args)]] := fun σ h => List.take_of_length_le (by simp [h])
    rw [e2, Tm.nodesL] at h1
    have hpl : p < L := by rw [← hL]; exact (List.getElem?_eq_some_iff.1 hp).1
    have hpl1 : p < L + 1 := by omega
    cases ok with
    | false =>
      simp [ir_term_properL0, e1, e2, e3, Tm.prL, set_self hp, hL, htk σ hL]
    | true =>
      obtain ⟨g1, g2, g3, g4⟩ := pr_eq t (d + 1) c h0
      have hset : (σ.set p (.var [.i (t.pr (d + 1) c).2]))[p]? = some (.var [.i (t.pr (d + 1) c).2]) := by
        rw [List.getElem?_set_self (by omega)]
      have hth := ihk (i + 1) bars (σ.set p (.var [.i (t.pr (d + 1) c).2])) (t.pr (d + 1) c).2 (t.pr (d + 1) c).1 (by omega) (by simpa using hL) (by omega) (by push_cast at h1; omega) hset
      push_cast at hth
      generalize LO TT HH bars ir_term_properL0 = F at hth ⊢
      have hcall : ∀ bars, RR TT HH bars n_term_proper [t.enc, .i (d + 1), .ptr p 0] (σ ++ [.var [.i op, .i hd, .i m, .sl false (Tm.cellsL args)]]) = some (.ret (.b (t.pr (d + 1) c).1), σ.set p (.var [.i (t.pr (d + 1) c).2]) ++ [.var [.i op, .i hd, .i m, .sl false (Tm.cellsL args)]]) := by
        intro bars
        rw [RR_open (by simp) (by simp), ih t htm bars _ (d + 1) c (by omega) (by omega) h0 (by push_cast at h1; omega) (sto_old hp _), List.set_append_left _ _ (by omega)]
      simp [ir_term_properL0, e1, e2, e3, ht, hcall, hw1, hw3, hth, Tm.prL, hL, get_len hL, hpl1, htk (σ.set p (.var [.i (t.pr (d + 1) c).2])) (by simpa using hL)]

set_option maxHeartbeats 2000000 in
theorem pr_spec : ∀ t : Tm, t.ok → ∀ (p : Nat) (bars : List Nat) (σ : Sto) (d c : Int), 0 ≤ d → d ≤ 41 → 0 ≤ c → c + t.nodes ≤ 100000 → σ[p]? = some (.var [.i c]) → runV TT HH bars n_term_proper [t.enc, .i d, .ptr p 0] σ = some (.ret (.b (t.pr d c).1), σ.set p (.var [.i (t.pr d c).2])) :=
  Tm.ind fun op hd n args ih hok p bars σ d c h0 h1 h2 h3 hp => by
    rw [eq_term_proper]
    unfold Tm.ok at hok
    unfold Tm.nodes at h3
    push_cast at h3
    have hargs := Tm.okL_mem.1 hok.2.2.2.2
    have e3 : args.length < 2 ^ 63 := by have := hok.2.2.2.1; unfold maxLen at this; omega
    have hw : IntKind.i64.wrap (c + 1) = c + 1 := wrap_small _ (by omega) (by omega)
    have hpl : p < σ.length := (List.getElem?_eq_some_iff.1 hp).1
    have hset : ∀ x, (σ.set p x)[p]? = some x := fun x => List.getElem?_set_self hpl
    have hset' : ∀ x l, (σ ++ l).set p x = σ.set p x ++ l := fun x l => List.set_append_left _ _ hpl
    have htk : ∀ x l, (σ.set p x ++ l).take σ.length = σ.set p x := fun x l => take_len (by simp)
    by_cases g1 : 600 < c + 1
    · simp [ir_term_proper, Tm.enc, Tm.cells, Tm.pr, g1, hw, sto_old hp, hset, hset', sto_old (hset _), htk, sto_get0, hpl]
    by_cases g2 : 40 < d
    · simp [ir_term_proper, Tm.enc, Tm.cells, Tm.pr, g1, g2, hw, sto_old hp, hset, hset', sto_old (hset _), htk, sto_get0, hpl]
    have hl := fun ok => pr_loop args op hd n p σ.length d hok.2.2.2.1 h0 (by omega) (fun t ht bars σ d c k1 k2 k3 k4 k5 => ih t ht (hargs t ht) p bars σ d c k1 k2 k3 k4 k5) args.length 0 (σ.length :: bars) (σ.set p (.var [.i (c + 1)])) (c + 1) ok (by omega) (by simp) (by omega) (by simp; omega) (hset _)
    clear ih hok hargs
    obtain ⟨ln, hln⟩ : ∃ ln, args.length = ln := ⟨_, rfl⟩
    rw [hln] at e3
    have goal : ∀ ok : Bool, shape op hd n (ln : Int) = ok → callF TT HH ir_term_proper bars [(Tm.mk op hd n args).enc, .i d, .ptr p 0] σ = some (.ret (.b (Tm.prL args (d + 1) (c + 1) ok).1), σ.set p (.var [.i (Tm.prL args (d + 1) (c + 1) ok).2])) := by
      intro ok hok
      have hl := hl ok
      simp [hln] at hl
      by_cases p1 : op = 1
      · subst p1
        by_cases q2 : hd = 0 <;> by_cases q3 : n = 0 <;> by_cases q1 : ln = 0 <;> simp [shape, q1, q2, q3] at hok <;> subst hok <;> (try simp [q1, q2, q3] at hl) <;> simp [ir_term_proper, Tm.enc, Tm.cells, g1, g2, hw, sto_old hp, hset, hset', sto_old (hset _), htk, sto_get0, hpl, hln, q1, q2, q3, e3, hl]
      by_cases p2 : op = 2
      · subst p2
        by_cases q2 : hd = 0 <;> by_cases q3 : n = 0 <;> by_cases q1 : (ln : Int) = 2 <;> simp [shape, q1, q2, q3] at hok <;> subst hok <;> (try simp [q1, q2, q3] at hl) <;> simp [ir_term_proper, Tm.enc, Tm.cells, g1, g2, hw, sto_old hp, hset, hset', sto_old (hset _), htk, sto_get0, hpl, hln, q1, q2, q3, e3, hl]
      by_cases p3 : op = 3
      · subst p3
        by_cases q2 : hd = 0 <;> by_cases q3 : n = 0 <;> by_cases q1 : (ln : Int) = 1 <;> simp [shape, q1, q2, q3] at hok <;> subst hok <;> (try simp [q1, q2, q3] at hl) <;> simp [ir_term_proper, Tm.enc, Tm.cells, g1, g2, hw, sto_old hp, hset, hset', sto_old (hset _), htk, sto_get0, hpl, hln, q1, q2, q3, e3, hl]
      by_cases p4 : op = 4
      · subst p4
        by_cases q1 : 1 ≤ hd
        · have z1 : ¬ hd = 0 := by omega
          by_cases q2 : hd ≤ 3
          · by_cases q3 : 0 ≤ n
            · by_cases q4 : n ≤ 9999 <;> simp [shape, q1, q2, q3, q4] at hok <;> subst hok <;> simp [ir_term_proper, Tm.enc, Tm.cells, g1, g2, hw, sto_old hp, hset, hset', sto_old (hset _), htk, sto_get0, hpl, hln, q1, q2, q3, q4, e3, z1, hl]
            · simp [shape, q1, q2, q3] at hok; subst hok
              simp [ir_term_proper, Tm.enc, Tm.cells, g1, g2, hw, sto_old hp, hset, hset', sto_old (hset _), htk, sto_get0, hpl, hln, q1, q2, q3, e3, z1, hl]
          · simp [shape, q1, q2] at hok; subst hok
            simp [ir_term_proper, Tm.enc, Tm.cells, g1, g2, hw, sto_old hp, hset, hset', sto_old (hset _), htk, sto_get0, hpl, hln, q1, q2, e3, z1, hl]
        · simp [shape, q1] at hok; subst hok
          by_cases z1 : hd = 0 <;> by_cases z2 : n = 0 <;> (try simp [z1, z2] at hl) <;> simp [ir_term_proper, Tm.enc, Tm.cells, g1, g2, hw, sto_old hp, hset, hset', sto_old (hset _), htk, sto_get0, hpl, hln, q1, e3, z1, z2, hl]
      simp [shape, p1, p2, p3, p4] at hok
      subst hok
      rw [prL_false]
      by_cases z1 : hd = 0 <;> by_cases z2 : n = 0 <;> simp [ir_term_proper, Tm.enc, Tm.cells, g1, g2, hw, sto_old hp, hset, hset', sto_old (hset _), htk, sto_get0, hpl, hln, p1, p2, p3, p4, e3, z1, z2]
    rw [goal _ rfl, Tm.pr, hln]
    simp [g1, g2]
end Go.Ev

/- term.Check, enum.isObject, enum.Key, enum.Before. -/
namespace Go.Ev
set_option linter.unusedSimpArgs false
set_option linter.unusedVariables false

theorem check_spec (t : Tm) (h : t.ok) (hn : t.nodes ≤ 90000) : runV TT HH [] n_term_Check [t.enc] [] = some (.ret (.i (if t.proper then 0 else 2)), []) := by
  rw [eq_term_Check]
  have h1 : ∀ bars, RR TT HH bars n_term_proper [t.enc, .i 1, .ptr 1 0] [.var t.cells, .var [.i 0]] = some (.ret (.b t.proper), [.var t.cells, .var [.i (t.pr 1 0).2]]) := by
    intro bars
    rw [RR_open (by simp) (by simp), pr_spec t h 1 bars _ 1 0 (by omega) (by omega) (by omega) (by omega) (by simp), pr_proper]
    rfl
  cases hp : t.proper <;> simp [hp] at h1 <;> simp [ir_term_Check, h1, hp]

/-- The function value that asks a part. -/
abbrev FN (q : Nat) : PV := .fn (.func n_enum_isObject_1) [.ptr q 0]
abbrev NF (q : Nat) : PV := .fn (.func n_enum_isObject_1_1) [.ptr q 0]

def fidx : List Tm → Int → Int
  | [], _ => -1
  | t :: r, i => if t.plain then fidx r (i + 1) else i
theorem fidx_ge : ∀ (l : List Tm) (i : Int), 0 ≤ i → decide (0 ≤ fidx l i) = !Tm.plainL l
  | [], i, h => by simp [fidx, Tm.plainL]
  | t :: r, i, h => by
    unfold fidx Tm.plainL
    cases t.plain with
    | true => simpa using fidx_ge r (i + 1) (by omega)
    | false => simp [h]

theorem index_loop (args : List Tm) (q : Nat) (σ : Sto) (hq : q < σ.length) (hlen : args.length ≤ maxLen) (ih : ∀ t ∈ args, ∀ bars, runV TT HH bars n_enum_isObject_1_1 [t.enc, .ptr q 0] σ = some (.ret (.b (!t.plain)), σ)) :
    ∀ (k i : Nat) (bars : List Nat), i + k = args.length →
      LO TT HH bars ir_slices_IndexFunc_of_Term_api_TermL0 ([(0, .sl false (Tm.cellsL args)), (1, NF q), (7, .i args.length), (8, .i i)], σ) =
        if Tm.plainL (args.drop i) then some (.exit 0, [], σ) else some (.ret, [(4, .i (fidx (args.drop i) i))], σ) := by
  intro k
  have e3 : args.length < 2 ^ 63 := by unfold maxLen at hlen; omega
  have htk : σ.take σ.length = σ := List.take_of_length_le (by omega)
  induction k with
  | zero =>
    intro i bars hi
    rw [LO_eq]
    have e1 : ¬ ((i : Int) < args.length) := by omega
    simp [ir_slices_IndexFunc_of_Term_api_TermL0, e1, drop_end hi, Tm.plainL]
  | succ k ihk =>
    intro i bars hi
    rw [LO_eq]
    obtain ⟨t, ht, htm, e2⟩ := get_some (l := args) (i := i) (by omega)
    have e1 : ((i : Int) < args.length) := by omega
    have hw3 : IntKind.i64.wrap ((i : Int) + 1) = (i : Int) + 1 := wrap_small _ (by omega) (by omega)
    have hth := ihk (i + 1) bars (by omega)
    push_cast at hth
    generalize LO TT HH bars ir_slices_IndexFunc_of_Term_api_TermL0 = F at hth ⊢
    have hc : ∀ bars, RR TT HH bars n_enum_isObject_1_1 [t.enc, .ptr q 0] σ = some (.ret (.b (!t.plain)), σ) := fun bars => by rw [RR_open (by simp) (by simp), ih t htm]
    cases hf : t.plain <;> simp [hf] at hc <;> simp [ir_slices_IndexFunc_of_Term_api_TermL0, e1, e2, ht, hc, hw3, hth, Tm.plainL, hf, hq, fidx]

theorem index_spec (args : List Tm) (q : Nat) (σ : Sto) (hq : q < σ.length) (hlen : args.length ≤ maxLen) (ih : ∀ t ∈ args, ∀ bars, runV TT HH bars n_enum_isObject_1_1 [t.enc, .ptr q 0] σ = some (.ret (.b (!t.plain)), σ)) (bars : List Nat) :
    runV TT HH bars n_slices_IndexFunc_of_Term_api_Term [.sl false (Tm.cellsL args), NF q] σ = some (.ret (.i (fidx args 0)), σ) := by
  rw [eq_slices_IndexFunc_of_Term_api_Term]
  have hl := index_loop args q σ hq hlen ih args.length 0 (σ.length :: bars) (by omega)
  have e3 : args.length < 2 ^ 63 := by unfold maxLen at hlen; omega
  have hf := fidx_ge args 0 (by omega)
  cases hp : Tm.plainL args <;> simp [hp] at hl
  · simp [ir_slices_IndexFunc_of_Term_api_Term, hl, e3]
  · have : fidx args 0 = -1 := by
      clear hl hf ih
      have : ∀ (l : List Tm) (i : Int), Tm.plainL l = true → fidx l i = -1 := by
        intro l
        induction l with
        | nil => intro i _; rfl
        | cons t r ih => intro i h; unfold Tm.plainL at h; simp at h; unfold fidx; rw [if_pos h.1]; exact ih _ h.2
      exact this _ _ hp
    simp [ir_slices_IndexFunc_of_Term_api_Term, hl, e3, this]

theorem contains_spec (args : List Tm) (q : Nat) (σ : Sto) (hq : q < σ.length) (hlen : args.length ≤ maxLen) (ih : ∀ t ∈ args, ∀ bars, runV TT HH bars n_enum_isObject_1_1 [t.enc, .ptr q 0] σ = some (.ret (.b (!t.plain)), σ)) (bars : List Nat) :
    runV TT HH bars n_slices_ContainsFunc_of_Term_api_Term [.sl false (Tm.cellsL args), NF q] σ = some (.ret (.b (!Tm.plainL args)), σ) := by
  rw [eq_slices_ContainsFunc_of_Term_api_Term]
  have h1 : ∀ bars, RR TT HH bars n_slices_IndexFunc_of_Term_api_Term [.sl false (Tm.cellsL args), NF q] σ = some (.ret (.i (fidx args 0)), σ) := fun bars => by rw [RR_open (by simp) (by simp), index_spec args q σ hq hlen ih]
  have hf := fidx_ge args 0 (by omega)
  simp [ir_slices_ContainsFunc_of_Term_api_Term, h1, hf]

theorem not_spec (t : Tm) (q : Nat) (σ : Sto) (hq : σ[q]? = some (.var [FN q])) (ih : ∀ bars (l : Sto), runV TT HH bars n_enum_isObject_1 [t.enc, .ptr q 0] (σ ++ l) = some (.ret (.b t.plain), σ ++ l)) (bars : List Nat) :
    runV TT HH bars n_enum_isObject_1_1 [t.enc, .ptr q 0] σ = some (.ret (.b (!t.plain)), σ) := by
  rw [eq_enum_isObject_1_1]
  have h1 : ∀ bars, RR TT HH bars n_enum_isObject_1 [t.enc, .ptr q 0] (σ ++ [.var t.cells]) = some (.ret (.b t.plain), σ ++ [.var t.cells]) := fun bars => by rw [RR_open (by simp) (by simp), ih]
  simp [ir_enum_isObject_1_1, h1, sto_old hq, sto_get0]

theorem fine_spec : ∀ t : Tm, t.ok → ∀ (q : Nat) (bars : List Nat) (σ : Sto), σ[q]? = some (.var [FN q]) → runV TT HH bars n_enum_isObject_1 [t.enc, .ptr q 0] σ = some (.ret (.b t.plain), σ) :=
  Tm.ind fun op hd n args ih hok q bars σ hq => by
    rw [eq_enum_isObject_1]
    unfold Tm.ok at hok
    have hargs := Tm.okL_mem.1 hok.2.2.2.2
    have hql : q < σ.length := (List.getElem?_eq_some_iff.1 hq).1
    have hc : ∀ bars, RR TT HH bars n_slices_ContainsFunc_of_Term_api_Term [.sl false (Tm.cellsL args), NF q] (σ ++ [.var [.i op, .i hd, .i n, .sl false (Tm.cellsL args)]]) = some (.ret (.b (!Tm.plainL args)), σ ++ [.var [.i op, .i hd, .i n, .sl false (Tm.cellsL args)]]) := fun bars => by
      rw [RR_open (by simp) (by simp)]
      refine contains_spec args q _ (by simp; omega) hok.2.2.2.1 (fun t ht bars => not_spec t q _ (sto_old hq _) (fun bars l => ?_) bars) bars
      exact ih t ht (hargs t ht) q bars _ (sto_old (sto_old hq _) _)
    clear ih
    cases hp : Tm.plainL args <;> simp [hp] at hc
    all_goals
      by_cases p1 : op = 3
      · subst p1
        simp [ir_enum_isObject_1, Tm.enc, Tm.cells, Tm.plain, hc, hp, sto_get0]
      · by_cases p2 : op = 4
        · subst p2
          by_cases p3 : hd = 3
          · subst p3
            simp [ir_enum_isObject_1, Tm.enc, Tm.cells, Tm.plain, hc, hp, sto_get0]
          · simp [ir_enum_isObject_1, Tm.enc, Tm.cells, Tm.plain, hc, hp, p3, sto_get0]
        · simp [ir_enum_isObject_1, Tm.enc, Tm.cells, Tm.plain, hc, hp, p1, p2, sto_get0]

theorem isObject_spec (t : Tm) (h : t.ok) (hn : t.nodes ≤ 90000) : runV TT HH [] n_enum_isObject [t.enc] [] = some (.ret (.b t.obj), []) := by
  rw [eq_enum_isObject]
  have h1 := RR_of (check_spec t h hn) (by simp) (by simp)
  have h2 : ∀ bars, RR TT HH bars n_enum_isObject_1 [t.enc, .ptr 1 0] [.var t.cells, .var [FN 1]] = some (.ret (.b t.plain), [.var t.cells, .var [FN 1]]) := fun bars => by
    rw [RR_open (by simp) (by simp), fine_spec t h 1 bars _ (by simp)]
  cases hp : t.proper <;> simp [hp] at h1 <;> simp [ir_enum_isObject, h1, h2, Tm.obj, hp, barsOk]

theorem Key_spec (t : Tm) (h : t.ok) (hn : t.nodes ≤ 90000) : runV TT HH [] n_enum_Key [t.enc] [] = some (.ret (if t.obj then .tup [.sl false (ints t.key), .i 0] else .tup [.sl false [], .i 2]), []) := by
  rw [eq_enum_Key]
  have h1 := RR_of (isObject_spec t h hn) (by simp) (by simp)
  have h2 := RR_of (ekey_spec t h (by omega)) (by simp) (by simp)
  cases hp : t.obj <;> simp [hp] at h1 <;> simp [ir_enum_Key, h1, h2, hp]

theorem Before_spec (s t : Tm) (hs : s.ok) (ht : t.ok) (ns : s.nodes ≤ 90000) (nt : t.nodes ≤ 90000) : runV TT HH [] n_enum_Before [s.enc, t.enc] [] = some (.ret (if s.obj && t.obj then .tup [.b (beforeR s.key t.key), .i 0] else .tup [.b false, .i 2]), []) := by
  rw [eq_enum_Before]
  have h1 := RR_of (isObject_spec s hs ns) (by simp) (by simp)
  have h2 := RR_of (isObject_spec t ht nt) (by simp) (by simp)
  have h3 := RR_of (ebefore_spec s t hs ht (by omega) (by omega)) (by simp) (by simp)
  cases hp : s.obj <;> simp [hp] at h1
  · simp [ir_enum_Before, h1, hp]
  · cases hq : t.obj <;> simp [hq] at h2 <;> simp [ir_enum_Before, h1, h2, h3, hp, hq]
end Go.Ev

/- law21.EnumKeys answers true. -/
namespace Go.Ev
set_option linter.unusedSimpArgs false
set_option linter.unusedVariables false
set_option maxHeartbeats 2000000 in
theorem EnumKeys_spec (a b : Tm) (ha : a.ok) (hb : b.ok) : runV TT HH [] n_law21_EnumKeys [a.enc, b.enc] [] = some (.ret (.b true), []) := by
  rw [eq_law21_EnumKeys]
  have w1 := RR_of (weigh_spec a ha 0 (by omega) (by omega)) (by simp) (by simp)
  have w2 := RR_of (weigh_spec b hb 0 (by omega) (by omega)) (by simp) (by simp)
  have aw := RR_of awake_spec (by simp) (by simp)
  by_cases p1 : 2000 < a.weigh 0
  · simp [ir_law21_EnumKeys, w1, p1, aw]
  by_cases p2 : 2000 < b.weigh 0
  · simp [ir_law21_EnumKeys, w1, w2, p1, p2, aw]
  have na : a.nodes ≤ 2000 := by have := weigh_nodes a 0 (by omega); omega
  have nb : b.nodes ≤ 2000 := by have := weigh_nodes b 0 (by omega); omega
  have k1 := RR_of (Key_spec a ha (by omega)) (by cases a.obj <;> simp) (by simp)
  have k2 := RR_of (Before_spec a b ha hb (by omega) (by omega)) (by simp) (by simp)
  have o1 := RR_of (Object_spec a ha) (by simp) (by simp)
  have o2 := RR_of (Object_spec b hb) (by simp) (by simp)
  have r1 := RR_of (rkey_spec a ha (by omega)) (by simp) (by simp)
  have r2 := RR_of (rbefore_spec a b ha hb (by omega) (by omega)) (by simp) (by simp)
  have la := key_len a
  have i1 := RR_of (ints_spec a.key a.key (by omega) (by omega)) (by simp) (by simp)
  simp at i1
  cases qa : a.obj
  · simp [qa] at k1 k2 o1
    simp [ir_law21_EnumKeys, w1, w2, p1, p2, aw, k1, k2, o1]
  · cases qb : b.obj
    · simp [qa, qb] at k1 k2 o1 o2
      simp [ir_law21_EnumKeys, w1, w2, p1, p2, aw, k1, k2, o1, o2, r1, r2, i1]
    · simp [qa, qb] at k1 k2 o1 o2
      simp [ir_law21_EnumKeys, w1, w2, p1, p2, aw, k1, k2, o1, o2, r1, r2, i1]
end Go.Ev

/- The arguments of the row as terms. -/
namespace Go.Ev
open Go.Proofs
set_option linter.unusedSimpArgs false
set_option linter.unusedVariables false

section
variable {P : Program} {ti ts tt : TypeId} {f0 f1 f2 f3 : Field}
theorem i64_of (u3 : P.underlying ti = some (.int .i64)) {n : Nat} {cs : List PV} (h : HasTy P n ti cs) : ∃ m, cs = [.i m] ∧ I64 m := by
  cases n with
  | zero => simp [HasTy] at h
  | succ n =>
    unfold HasTy at h
    rw [u3] at h
    simp only at h
    obtain ⟨m, rfl, hm⟩ := h
    refine ⟨m, rfl, ?_⟩
    simp [Lit.wf, IntKind.min, IntKind.max, IntKind.signed, IntKind.bits] at hm
    unfold I64
    omega

theorem tm_of (u3 : P.underlying ti = some (.int .i64)) (u22 : P.underlying ts = some (.slice tt)) (u24 : P.underlying tt = some (.struct #[f0, f1, f2, f3])) (e0 : f0.type = ti) (e1 : f1.type = ti) (e2 : f2.type = ti) (e3 : f3.type = ts) : ∀ (n : Nat) (cs : List PV), HasTy P n tt cs → ∃ t : Tm, cs = t.cells ∧ t.ok := by
  intro n
  induction n using Nat.strongRecOn with
  | _ n ih =>
    intro cs h
    cases n with
    | zero => simp [HasTy] at h
    | succ n =>
      unfold HasTy at h
      rw [u24] at h
      simp only [List.map_cons, List.map_nil, Tys, e0, e1, e2, e3] at h
      obtain ⟨a, b, rfl, ha, b1, b2, rfl, hb, c1, c2, rfl, hc, d1, d2, rfl, hd, rfl⟩ := h
      obtain ⟨op, rfl, h1⟩ := i64_of u3 ha
      obtain ⟨hdd, rfl, h2⟩ := i64_of u3 hb
      obtain ⟨m, rfl, h3⟩ := i64_of u3 hc
      cases n with
      | zero => simp [HasTy] at hd
      | succ n =>
        unfold HasTy at hd
        rw [u22] at hd
        simp only at hd
        obtain ⟨es, rfl, hl, hes⟩ := hd
        have : ∀ es : List (List PV), (∀ x ∈ es, HasTy P n tt x) → ∃ l : List Tm, es = Tm.cellsL l ∧ ∀ t ∈ l, t.ok := by
          intro es
          induction es with
          | nil => intro _; exact ⟨[], rfl, by simp⟩
          | cons x r ihr =>
            intro h
            obtain ⟨t, rfl, ht⟩ := ih n (by omega) x (h x (by simp))
            obtain ⟨l, rfl, hl⟩ := ihr fun y hy => h y (by simp [hy])
            exact ⟨t :: l, rfl, by simp [ht]; exact hl⟩
        obtain ⟨l, rfl, hok⟩ := this es hes
        exact ⟨.mk op hdd m l, rfl, by unfold Tm.ok; exact ⟨h1, h2, h3, by simpa using hl, Tm.okL_mem.2 hok⟩⟩

theorem enc_of (u3 : P.underlying ti = some (.int .i64)) (u22 : P.underlying ts = some (.slice tt)) (u24 : P.underlying tt = some (.struct #[f0, f1, f2, f3])) (e0 : f0.type = ti) (e1 : f1.type = ti) (e2 : f2.type = ti) (e3 : f3.type = ts) {n : Nat} {p : PV} (h : HasTyV P n tt p) : ∃ t : Tm, p = t.enc ∧ t.ok := by
  obtain ⟨cs, h1, h2⟩ := h
  rw [u24] at h2
  simp only at h2
  obtain ⟨t, rfl, ht⟩ := tm_of u3 u22 u24 e0 e1 e2 e3 n cs h1
  exact ⟨t, h2, ht⟩

theorem two_of (u3 : P.underlying ti = some (.int .i64)) (u22 : P.underlying ts = some (.slice tt)) (u24 : P.underlying tt = some (.struct #[f0, f1, f2, f3])) (e0 : f0.type = ti) (e1 : f1.type = ti) (e2 : f2.type = ti) (e3 : f3.type = ts) {n : Nat} : ∀ {pvs : List PV}, HasTysV P n [tt, tt] pvs → ∃ s t : Tm, pvs = [s.enc, t.enc] ∧ s.ok ∧ t.ok
  | [p, q], ⟨h1, h2, _⟩ => by
    obtain ⟨s, rfl, hs⟩ := enc_of u3 u22 u24 e0 e1 e2 e3 h1
    obtain ⟨t, rfl, ht⟩ := enc_of u3 u22 u24 e0 e1 e2 e3 h2
    exact ⟨s, t, rfl, hs, ht⟩
  | [], h => h.elim
  | [_], h => h.2.elim
  | _ :: _ :: _ :: _, h => h.2.2.elim
end

theorem EnumKeys_run (n : Nat) (pvs : List PV) (h : HasTysV Tryz.prog n [24, 24] pvs) : runV TT HH [] 3 pvs [] = some (.ret (.b true), []) := by
  obtain ⟨s, t, rfl, hs, ht⟩ := two_of Tryz.underlying3 Tryz.underlying22 Tryz.underlying24 rfl rfl rfl rfl h
  exact EnumKeys_spec s t hs ht
end Go.Ev
