/- Equality of what is loaded: the program's functions and the reference's, and the law. -/
import Derived.Test.YtpbcpnbcjnhifaaGreatDoorEvJ
import Derived.Test.YtpbcpnbcjnhifaaGreatDoorEvM
import Derived.Test.YtpbcpnbcjnhifaaGreatDoorEvF
set_option linter.unnecessarySimpa false
set_option linter.unusedVariables false
set_option linter.unusedSimpArgs false
set_option linter.unusedSectionVars false
namespace Go.Ev
set_option linter.unusedSimpArgs false
set_option linter.unusedVariables false
set_option maxHeartbeats 1000000

theorem ml {n : Nat} (h : n ≤ maxLen) : n < 2 ^ 63 := by unfold maxLen at h; omega
theorem Tm.ok.len {t : Tm} (h : t.ok) : t.args.length ≤ maxLen := h.here.2.2.2
theorem Tm.ext_iff (a b : Tm) : a = b ↔ a.op = b.op ∧ a.hd = b.hd ∧ a.n = b.n ∧ a.args = b.args := by
  cases a; cases b; simp
theorem Rw.ext_iff (a b : Rw) : a = b ↔ a.op = b.op ∧ a.name = b.name ∧ a.args = b.args := by
  cases a; cases b; simp
theorem Pt.ext_iff (a b : Pt) : a = b ↔ a.op = b.op ∧ a.sign = b.sign ∧ a.name = b.name ∧ a.n = b.n ∧ a.raw = b.raw ∧ a.parts = b.parts := by
  cases a; cases b; simp
theorem Dc.ext_iff' (a b : Dc) : a = b ↔ a.name = b.name ∧ a.imp = b.imp ∧ a.class_ = b.class_ := by
  cases a; cases b; simp; exact fun _ => and_comm
theorem It_.ext_iff' (a b : It_) : a = b ↔ a.word = b.word ∧ a.name = b.name ∧ a.raw = b.raw ∧ a.parts = b.parts := by
  cases a; cases b; simp
theorem Dv.ext_iff' (a b : Dv) : a = b ↔ a.after = b.after ∧ a.item = b.item := by
  cases a; cases b; simp [and_comm]
theorem Ld.ext_iff' (a b : Ld) : a = b ↔ a.sig = b.sig ∧ a.words = b.words := by
  cases a; cases b; simp

theorem equalFunc_tm (g : FuncId) (hg : g < YB) (a b : List Tm) (ha : a.length < 2 ^ 63) (hb : b.length < 2 ^ 63)
    (h : ∀ x ∈ a, ∀ y ∈ b, runV TT HH [] g [x.enc, y.enc] [] = some (.ret (.b (decide (x = y))), [])) :
    runV TT HH [] n_slices_EqualFunc_of_Term_api_Term_api_Term_api_Term [.sl false (encL a), .sl false (encL b), .fn (.func g) []] [] = some (.ret (.b (decide (a = b))), []) := by
  rw [eq_slices_EqualFunc_of_Term_api_Term_api_Term_api_Term]
  by_cases hl : a.length = b.length
  · have hlo := LO_list (T := TT) (H := HH) (b := [0]) (A := ir_slices_EqualFunc_of_Term_api_Term_api_Term_api_TermL0) a
      (fun i (_ : Unit) => ([(1, .sl false (encL b)), (2, .fn (.func g) []), (15, .sl false (encL a)), (16, .i a.length), (17, .i i)], []))
      (fun r i _ => if r = b.drop i then (.exit 0, [], []) else (.ret, [(6, .b false)], []))
      (fun _ _ => True)
      (fun _ _ => by
        have : b.drop a.length = [] := drop_end (by omega)
        simp [ir_slices_EqualFunc_of_Term_api_Term_api_Term_api_TermL0, this])
      (fun i x r _ hx hm hd hi _ => by
        obtain ⟨y, hy, hym, hdb⟩ := get_some (l := b) (i := i) (by omega)
        have hc := RR_of (h x hm y hym) (by simp) hg
        have e1 : (i : Int) < a.length := by omega
        have hw : IntKind.i64.wrap ((i : Int) + 1) = (i : Int) + 1 := wrap_small _ (by omega) (by omega)
        by_cases hxy : x = y
        · subst hxy
          refine .inr ⟨(), ?_, trivial, ?_⟩
          · simp [ir_slices_EqualFunc_of_Term_api_Term_api_Term_api_TermL0, hx, hy, e1, hw, hg, tm_fold', hc]
          · simp [hdb]
        · refine .inl ?_
          simp [ir_slices_EqualFunc_of_Term_api_Term_api_Term_api_TermL0, hx, hy, e1, hw, hg, tm_fold', hc, hdb, hxy]) 0 () (by omega) trivial
    simp [hl] at hlo
    by_cases hab : a = b <;> simp [hab] at hlo <;> simp [ir_slices_EqualFunc_of_Term_api_Term_api_Term_api_Term, hl, hb, hab, hlo]
  · have hab : a ≠ b := fun e => hl (by rw [e])
    have hl' : ¬ (a.length : Int) = b.length := by omega
    simp [ir_slices_EqualFunc_of_Term_api_Term_api_Term_api_Term, ha, hb, hl', hab]

theorem equalFunc_rw (g : FuncId) (hg : g < YB) (a b : List Rw) (ha : a.length < 2 ^ 63) (hb : b.length < 2 ^ 63)
    (h : ∀ x ∈ a, ∀ y ∈ b, runV TT HH [] g [x.enc, y.enc] [] = some (.ret (.b (decide (x = y))), [])) :
    runV TT HH [] n_slices_EqualFunc_of_Raw_api_Raw_api_Raw_api_Raw [.sl false (encL a), .sl false (encL b), .fn (.func g) []] [] = some (.ret (.b (decide (a = b))), []) := by
  rw [eq_slices_EqualFunc_of_Raw_api_Raw_api_Raw_api_Raw]
  by_cases hl : a.length = b.length
  · have hlo := LO_list (T := TT) (H := HH) (b := [0]) (A := ir_slices_EqualFunc_of_Raw_api_Raw_api_Raw_api_RawL0) a
      (fun i (_ : Unit) => ([(1, .sl false (encL b)), (2, .fn (.func g) []), (15, .sl false (encL a)), (16, .i a.length), (17, .i i)], []))
      (fun r i _ => if r = b.drop i then (.exit 0, [], []) else (.ret, [(6, .b false)], []))
      (fun _ _ => True)
      (fun _ _ => by
        have : b.drop a.length = [] := drop_end (by omega)
        simp [ir_slices_EqualFunc_of_Raw_api_Raw_api_Raw_api_RawL0, this])
      (fun i x r _ hx hm hd hi _ => by
        obtain ⟨y, hy, hym, hdb⟩ := get_some (l := b) (i := i) (by omega)
        have hc := RR_of (h x hm y hym) (by simp) hg
        have e1 : (i : Int) < a.length := by omega
        have hw : IntKind.i64.wrap ((i : Int) + 1) = (i : Int) + 1 := wrap_small _ (by omega) (by omega)
        by_cases hxy : x = y
        · subst hxy
          refine .inr ⟨(), ?_, trivial, ?_⟩
          · simp [ir_slices_EqualFunc_of_Raw_api_Raw_api_Raw_api_RawL0, hx, hy, e1, hw, hg, rw_fold', hc]
          · simp [hdb]
        · refine .inl ?_
          simp [ir_slices_EqualFunc_of_Raw_api_Raw_api_Raw_api_RawL0, hx, hy, e1, hw, hg, rw_fold', hc, hdb, hxy]) 0 () (by omega) trivial
    simp [hl] at hlo
    by_cases hab : a = b <;> simp [hab] at hlo <;> simp [ir_slices_EqualFunc_of_Raw_api_Raw_api_Raw_api_Raw, hl, hb, hab, hlo]
  · have hab : a ≠ b := fun e => hl (by rw [e])
    have hl' : ¬ (a.length : Int) = b.length := by omega
    simp [ir_slices_EqualFunc_of_Raw_api_Raw_api_Raw_api_Raw, ha, hb, hl', hab]

theorem equalFunc_pt (g : FuncId) (hg : g < YB) (a b : List Pt) (ha : a.length < 2 ^ 63) (hb : b.length < 2 ^ 63)
    (h : ∀ x ∈ a, ∀ y ∈ b, runV TT HH [] g [x.enc, y.enc] [] = some (.ret (.b (decide (x = y))), [])) :
    runV TT HH [] n_slices_EqualFunc_of_Part_api_Part_api_Part_api_Part [.sl false (encL a), .sl false (encL b), .fn (.func g) []] [] = some (.ret (.b (decide (a = b))), []) := by
  rw [eq_slices_EqualFunc_of_Part_api_Part_api_Part_api_Part]
  by_cases hl : a.length = b.length
  · have hlo := LO_list (T := TT) (H := HH) (b := [0]) (A := ir_slices_EqualFunc_of_Part_api_Part_api_Part_api_PartL0) a
      (fun i (_ : Unit) => ([(1, .sl false (encL b)), (2, .fn (.func g) []), (15, .sl false (encL a)), (16, .i a.length), (17, .i i)], []))
      (fun r i _ => if r = b.drop i then (.exit 0, [], []) else (.ret, [(6, .b false)], []))
      (fun _ _ => True)
      (fun _ _ => by
        have : b.drop a.length = [] := drop_end (by omega)
        simp [ir_slices_EqualFunc_of_Part_api_Part_api_Part_api_PartL0, this])
      (fun i x r _ hx hm hd hi _ => by
        obtain ⟨y, hy, hym, hdb⟩ := get_some (l := b) (i := i) (by omega)
        have hc := RR_of (h x hm y hym) (by simp) hg
        have e1 : (i : Int) < a.length := by omega
        have hw : IntKind.i64.wrap ((i : Int) + 1) = (i : Int) + 1 := wrap_small _ (by omega) (by omega)
        by_cases hxy : x = y
        · subst hxy
          refine .inr ⟨(), ?_, trivial, ?_⟩
          · simp [ir_slices_EqualFunc_of_Part_api_Part_api_Part_api_PartL0, hx, hy, e1, hw, hg, pt_fold', hc]
          · simp [hdb]
        · refine .inl ?_
          simp [ir_slices_EqualFunc_of_Part_api_Part_api_Part_api_PartL0, hx, hy, e1, hw, hg, pt_fold', hc, hdb, hxy]) 0 () (by omega) trivial
    simp [hl] at hlo
    by_cases hab : a = b <;> simp [hab] at hlo <;> simp [ir_slices_EqualFunc_of_Part_api_Part_api_Part_api_Part, hl, hb, hab, hlo]
  · have hab : a ≠ b := fun e => hl (by rw [e])
    have hl' : ¬ (a.length : Int) = b.length := by omega
    simp [ir_slices_EqualFunc_of_Part_api_Part_api_Part_api_Part, ha, hb, hl', hab]

theorem equalFunc_dc (g : FuncId) (hg : g < YB) (a b : List Dc) (ha : a.length < 2 ^ 63) (hb : b.length < 2 ^ 63)
    (h : ∀ x ∈ a, ∀ y ∈ b, runV TT HH [] g [x.enc, y.enc] [] = some (.ret (.b (decide (x = y))), [])) :
    runV TT HH [] n_slices_EqualFunc_of_Decl_api_Decl_api_Decl_api_Decl [.sl false (encL a), .sl false (encL b), .fn (.func g) []] [] = some (.ret (.b (decide (a = b))), []) := by
  rw [eq_slices_EqualFunc_of_Decl_api_Decl_api_Decl_api_Decl]
  by_cases hl : a.length = b.length
  · have hlo := LO_list (T := TT) (H := HH) (b := [0]) (A := ir_slices_EqualFunc_of_Decl_api_Decl_api_Decl_api_DeclL0) a
      (fun i (_ : Unit) => ([(1, .sl false (encL b)), (2, .fn (.func g) []), (15, .sl false (encL a)), (16, .i a.length), (17, .i i)], []))
      (fun r i _ => if r = b.drop i then (.exit 0, [], []) else (.ret, [(6, .b false)], []))
      (fun _ _ => True)
      (fun _ _ => by
        have : b.drop a.length = [] := drop_end (by omega)
        simp [ir_slices_EqualFunc_of_Decl_api_Decl_api_Decl_api_DeclL0, this])
      (fun i x r _ hx hm hd hi _ => by
        obtain ⟨y, hy, hym, hdb⟩ := get_some (l := b) (i := i) (by omega)
        have hc := RR_of (h x hm y hym) (by simp) hg
        have e1 : (i : Int) < a.length := by omega
        have hw : IntKind.i64.wrap ((i : Int) + 1) = (i : Int) + 1 := wrap_small _ (by omega) (by omega)
        by_cases hxy : x = y
        · subst hxy
          refine .inr ⟨(), ?_, trivial, ?_⟩
          · simp [ir_slices_EqualFunc_of_Decl_api_Decl_api_Decl_api_DeclL0, hx, hy, e1, hw, hg, dc_fold', hc]
          · simp [hdb]
        · refine .inl ?_
          simp [ir_slices_EqualFunc_of_Decl_api_Decl_api_Decl_api_DeclL0, hx, hy, e1, hw, hg, dc_fold', hc, hdb, hxy]) 0 () (by omega) trivial
    simp [hl] at hlo
    by_cases hab : a = b <;> simp [hab] at hlo <;> simp [ir_slices_EqualFunc_of_Decl_api_Decl_api_Decl_api_Decl, hl, hb, hab, hlo]
  · have hab : a ≠ b := fun e => hl (by rw [e])
    have hl' : ¬ (a.length : Int) = b.length := by omega
    simp [ir_slices_EqualFunc_of_Decl_api_Decl_api_Decl_api_Decl, ha, hb, hl', hab]

theorem equalFunc_dv (g : FuncId) (hg : g < YB) (a b : List Dv) (ha : a.length < 2 ^ 63) (hb : b.length < 2 ^ 63)
    (h : ∀ x ∈ a, ∀ y ∈ b, runV TT HH [] g [x.enc, y.enc] [] = some (.ret (.b (decide (x = y))), [])) :
    runV TT HH [] n_slices_EqualFunc_of_Directive_api_Directive_api_Directive_api_Directive [.sl false (encL a), .sl false (encL b), .fn (.func g) []] [] = some (.ret (.b (decide (a = b))), []) := by
  rw [eq_slices_EqualFunc_of_Directive_api_Directive_api_Directive_api_Directive]
  by_cases hl : a.length = b.length
  · have hlo := LO_list (T := TT) (H := HH) (b := [0]) (A := ir_slices_EqualFunc_of_Directive_api_Directive_api_Directive_api_DirectiveL0) a
      (fun i (_ : Unit) => ([(1, .sl false (encL b)), (2, .fn (.func g) []), (15, .sl false (encL a)), (16, .i a.length), (17, .i i)], []))
      (fun r i _ => if r = b.drop i then (.exit 0, [], []) else (.ret, [(6, .b false)], []))
      (fun _ _ => True)
      (fun _ _ => by
        have : b.drop a.length = [] := drop_end (by omega)
        simp [ir_slices_EqualFunc_of_Directive_api_Directive_api_Directive_api_DirectiveL0, this])
      (fun i x r _ hx hm hd hi _ => by
        obtain ⟨y, hy, hym, hdb⟩ := get_some (l := b) (i := i) (by omega)
        have hc := RR_of (h x hm y hym) (by simp) hg
        have e1 : (i : Int) < a.length := by omega
        have hw : IntKind.i64.wrap ((i : Int) + 1) = (i : Int) + 1 := wrap_small _ (by omega) (by omega)
        by_cases hxy : x = y
        · subst hxy
          refine .inr ⟨(), ?_, trivial, ?_⟩
          · simp [ir_slices_EqualFunc_of_Directive_api_Directive_api_Directive_api_DirectiveL0, hx, hy, e1, hw, hg, dv_fold', hc]
          · simp [hdb]
        · refine .inl ?_
          simp [ir_slices_EqualFunc_of_Directive_api_Directive_api_Directive_api_DirectiveL0, hx, hy, e1, hw, hg, dv_fold', hc, hdb, hxy]) 0 () (by omega) trivial
    simp [hl] at hlo
    by_cases hab : a = b <;> simp [hab] at hlo <;> simp [ir_slices_EqualFunc_of_Directive_api_Directive_api_Directive_api_Directive, hl, hb, hab, hlo]
  · have hab : a ≠ b := fun e => hl (by rw [e])
    have hl' : ¬ (a.length : Int) = b.length := by omega
    simp [ir_slices_EqualFunc_of_Directive_api_Directive_api_Directive_api_Directive, ha, hb, hl', hab]

theorem term_Same_spec : ∀ a : Tm, a.ok → ∀ b : Tm, b.ok → runV TT HH [] n_term_Same [a.enc, b.enc] [] = some (.ret (.b (decide (a = b))), []) :=
  Tm.ind fun a ih ha b hb => by
    rw [eq_term_Same]
    have hc := RR_of (equalFunc_tm n_term_Same (by simp) a.args b.args (ml ha.len) (ml hb.len) fun x hx y hy => ih x hx (ha.sub x hx) y (hb.sub y hy)) (by simp) (by simp)
    by_cases h0 : a.op = b.op
    rotate_left
    · simp [ir_term_Same, Tm.ext_iff, h0, hc]
    by_cases h1 : a.hd = b.hd
    rotate_left
    · simp [ir_term_Same, Tm.ext_iff, h1, h0, hc]
    by_cases h2 : a.n = b.n
    rotate_left
    · simp [ir_term_Same, Tm.ext_iff, h2, h0, h1, hc]
    simp [ir_term_Same, Tm.ext_iff, h0, h1, h2, hc]
theorem syntax_Same_spec : ∀ a : Rw, a.ok → ∀ b : Rw, b.ok → runV TT HH [] n_syntax_Same [a.enc, b.enc] [] = some (.ret (.b (decide (a = b))), []) :=
  Rw.ind fun a ih ha b hb => by
    rw [eq_syntax_Same]
    have hc := RR_of (equalFunc_rw n_syntax_Same (by simp) a.args b.args (ml ha.len) (ml hb.len) fun x hx y hy => ih x hx (ha.sub x hx) y (hb.sub y hy)) (by simp) (by simp)
    by_cases h0 : a.op = b.op
    rotate_left
    · simp [ir_syntax_Same, Rw.ext_iff, h0, hc]
    by_cases h1 : a.name = b.name
    rotate_left
    · simp [ir_syntax_Same, Rw.ext_iff, h1, h0, hc]
    simp [ir_syntax_Same, Rw.ext_iff, h0, h1, hc]
theorem load_same_spec : ∀ a : Pt, a.ok → ∀ b : Pt, b.ok → runV TT HH [] n_load_same [a.enc, b.enc] [] = some (.ret (.b (decide (a = b))), []) :=
  Pt.ind fun a ih ha b hb => by
    rw [eq_load_same]
    have hr := RR_of (syntax_Same_spec a.raw ha.rw b.raw hb.rw) (by simp) (by simp)
    have hc := RR_of (equalFunc_pt n_load_same (by simp) a.parts b.parts (ml ha.len) (ml hb.len) fun x hx y hy => ih x hx (ha.sub x hx) y (hb.sub y hy)) (by simp) (by simp)
    by_cases h0 : a.op = b.op
    rotate_left
    · simp [ir_load_same, Pt.ext_iff, h0, rw_fold', hr, hc]
    by_cases h1 : a.sign = b.sign
    rotate_left
    · simp [ir_load_same, Pt.ext_iff, h1, h0, rw_fold', hr, hc]
    by_cases h2 : a.name = b.name
    rotate_left
    · simp [ir_load_same, Pt.ext_iff, h2, h0, h1, rw_fold', hr, hc]
    by_cases h3 : a.n = b.n
    rotate_left
    · simp [ir_load_same, Pt.ext_iff, h3, h0, h1, h2, rw_fold', hr, hc]
    by_cases h4 : a.raw = b.raw
    rotate_left
    · simp [ir_load_same, Pt.ext_iff, h4, h0, h1, h2, h3, rw_fold', hr, hc]
    rw [h4] at hr
    simp [ir_load_same, Pt.ext_iff, h0, h1, h2, h3, h4, rw_fold', hr, hc]
theorem load_Same_1_spec : ∀ a : Dc, a.ok → ∀ b : Dc, b.ok → runV TT HH [] n_load_Same_1 [a.enc, b.enc] [] = some (.ret (.b (decide (a = b))), []) :=
  fun a ha b hb => by
    rw [eq_load_Same_1]
    have hr := RR_of (term_Same_spec a.class_ ha.2.1 b.class_ hb.2.1) (by simp) (by simp)
    by_cases h0 : a.name = b.name
    rotate_left
    · simp [ir_load_Same_1, Dc.ext_iff', h0, tm_fold', hr]
    by_cases h1 : a.imp = b.imp
    rotate_left
    · simp [ir_load_Same_1, Dc.ext_iff', h1, h0, tm_fold', hr]
    simp [ir_load_Same_1, Dc.ext_iff', h0, h1, tm_fold', hr]
theorem load_Same_2_spec : ∀ a : Dv, a.ok → ∀ b : Dv, b.ok → runV TT HH [] n_load_Same_2 [a.enc, b.enc] [] = some (.ret (.b (decide (a = b))), []) :=
  fun a ha b hb => by
    rw [eq_load_Same_2]
    have hr := RR_of (syntax_Same_spec a.item.raw ha.1.2.2.1 b.item.raw hb.1.2.2.1) (by simp) (by simp)
    have hc := RR_of (equalFunc_pt n_load_same (by simp) a.item.parts b.item.parts (ml ha.1.2.2.2.1) (ml hb.1.2.2.2.1) fun x hx y hy => load_same_spec x (ha.1.2.2.2.2 x hx) y (hb.1.2.2.2.2 y hy)) (by simp) (by simp)
    by_cases h0 : a.after = b.after
    rotate_left
    · simp [ir_load_Same_2, Dv.ext_iff', It_.ext_iff', h0, rw_fold', hr, hc]
    by_cases h1 : a.item.word = b.item.word
    rotate_left
    · simp [ir_load_Same_2, Dv.ext_iff', It_.ext_iff', h1, h0, rw_fold', hr, hc]
    by_cases h2 : a.item.name = b.item.name
    rotate_left
    · simp [ir_load_Same_2, Dv.ext_iff', It_.ext_iff', h2, h0, h1, rw_fold', hr, hc]
    by_cases h3 : a.item.raw = b.item.raw
    rotate_left
    · simp [ir_load_Same_2, Dv.ext_iff', It_.ext_iff', h3, h0, h1, h2, rw_fold', hr, hc]
    rw [h3] at hr
    simp [ir_load_Same_2, Dv.ext_iff', It_.ext_iff', h0, h1, h2, h3, rw_fold', hr, hc]
theorem load_Same_spec : ∀ a : Ld, a.ok → ∀ b : Ld, b.ok → runV TT HH [] n_load_Same [a.enc, b.enc] [] = some (.ret (.b (decide (a = b))), []) :=
  fun a ha b hb => by
    rw [eq_load_Same]
    have hr := RR_of (equalFunc_dc n_load_Same_1 (by simp) a.sig b.sig (ml ha.1) (ml hb.1) fun x hx y hy => load_Same_1_spec x (ha.2.1 x hx) y (hb.2.1 y hy)) (by simp) (by simp)
    have hc := RR_of (equalFunc_dv n_load_Same_2 (by simp) a.words b.words (ml ha.2.2.1) (ml hb.2.2.1) fun x hx y hy => load_Same_2_spec x (ha.2.2.2 x hx) y (hb.2.2.2 y hy)) (by simp) (by simp)
    by_cases h0 : a.sig = b.sig
    rotate_left
    · simp [ir_load_Same, Ld.ext_iff', h0, hr, hc]
    rw [h0] at hr
    simp [ir_load_Same, Ld.ext_iff', h0, hr, hc]
theorem ref03_Same_loop (a b : Tm) (hl : (a.args).length = (b.args).length) (hb : (b.args).length < 2 ^ 63)
    (h : ∀ x ∈ a.args, ∀ y ∈ b.args, runV TT HH [] n_ref03_Same [x.enc, y.enc] [] = some (.ret (.b (decide (x = y))), [])) :
    LO TT HH [0] ir_ref03_SameL0 ([(2, .ptr 0 0), (3, .ptr 1 0), (5, .i 0)], [.var (Enc.cells a), .var (Enc.cells b)]) = some (if a.args = b.args then (.exit 0, [], [.var (Enc.cells a), .var (Enc.cells b)]) else (.ret, [(4, .b false)], [.var (Enc.cells a), .var (Enc.cells b)])) := by
  have hlo := LO_list (T := TT) (H := HH) (b := [0]) (A := ir_ref03_SameL0) (a.args)
    (fun i (_ : Unit) => ([(2, .ptr 0 0), (3, .ptr 1 0), (5, .i i)], [.var (Enc.cells a), .var (Enc.cells b)]))
    (fun r i _ => if r = (b.args).drop i then (.exit 0, [], [.var (Enc.cells a), .var (Enc.cells b)]) else (.ret, [(4, .b false)], [.var (Enc.cells a), .var (Enc.cells b)]))
    (fun _ _ => True)
    (fun _ _ => by
      have : (b.args).drop (a.args).length = [] := drop_end (by omega)
      have e3 : (a.args).length < 2 ^ 63 := by omega
      simp [ir_ref03_SameL0, this, e3, It_.cells])
    (fun i x r _ hx hm hd hi _ => by
      obtain ⟨y, hy, hym, hdb⟩ := get_some (l := b.args) (i := i) (by omega)
      have e1 : (i : Int) < (a.args).length := by omega
      have e3 : (a.args).length < 2 ^ 63 := by omega
      have hw : IntKind.i64.wrap ((i : Int) + 1) = (i : Int) + 1 := wrap_small _ (by omega) (by omega)
      have h0 := h x hm y hym
      have hc := RR_of h0 (by simp) (by simp)
      by_cases hxy : x = y
      · subst hxy
        refine .inr ⟨(), ?_, trivial, ?_⟩
        · simp [ir_ref03_SameL0, hx, hy, e1, e3, hw, tm_fold', hc]
        · simp [hdb]
      · refine .inl ?_
        simp [ir_ref03_SameL0, hx, hy, e1, e3, hw, tm_fold', hc, hdb, hxy]) 0 () (by omega) trivial
  simpa using hlo

theorem ref02_Same_loop (a b : Rw) (hl : (a.args).length = (b.args).length) (hb : (b.args).length < 2 ^ 63)
    (h : ∀ x ∈ a.args, ∀ y ∈ b.args, runV TT HH [] n_ref02_Same [x.enc, y.enc] [] = some (.ret (.b (decide (x = y))), [])) :
    LO TT HH [0] ir_ref02_SameL0 ([(2, .ptr 0 0), (3, .ptr 1 0), (5, .i 0)], [.var (Enc.cells a), .var (Enc.cells b)]) = some (if a.args = b.args then (.exit 0, [], [.var (Enc.cells a), .var (Enc.cells b)]) else (.ret, [(4, .b false)], [.var (Enc.cells a), .var (Enc.cells b)])) := by
  have hlo := LO_list (T := TT) (H := HH) (b := [0]) (A := ir_ref02_SameL0) (a.args)
    (fun i (_ : Unit) => ([(2, .ptr 0 0), (3, .ptr 1 0), (5, .i i)], [.var (Enc.cells a), .var (Enc.cells b)]))
    (fun r i _ => if r = (b.args).drop i then (.exit 0, [], [.var (Enc.cells a), .var (Enc.cells b)]) else (.ret, [(4, .b false)], [.var (Enc.cells a), .var (Enc.cells b)]))
    (fun _ _ => True)
    (fun _ _ => by
      have : (b.args).drop (a.args).length = [] := drop_end (by omega)
      have e3 : (a.args).length < 2 ^ 63 := by omega
      simp [ir_ref02_SameL0, this, e3, It_.cells])
    (fun i x r _ hx hm hd hi _ => by
      obtain ⟨y, hy, hym, hdb⟩ := get_some (l := b.args) (i := i) (by omega)
      have e1 : (i : Int) < (a.args).length := by omega
      have e3 : (a.args).length < 2 ^ 63 := by omega
      have hw : IntKind.i64.wrap ((i : Int) + 1) = (i : Int) + 1 := wrap_small _ (by omega) (by omega)
      have h0 := h x hm y hym
      have hc := RR_of h0 (by simp) (by simp)
      by_cases hxy : x = y
      · subst hxy
        refine .inr ⟨(), ?_, trivial, ?_⟩
        · simp [ir_ref02_SameL0, hx, hy, e1, e3, hw, rw_fold', hc]
        · simp [hdb]
      · refine .inl ?_
        simp [ir_ref02_SameL0, hx, hy, e1, e3, hw, rw_fold', hc, hdb, hxy]) 0 () (by omega) trivial
  simpa using hlo

theorem ref02_SamePart_loop (a b : Pt) (hl : (a.parts).length = (b.parts).length) (hb : (b.parts).length < 2 ^ 63)
    (h : ∀ x ∈ a.parts, ∀ y ∈ b.parts, runV TT HH [] n_ref02_SamePart [x.enc, y.enc] [] = some (.ret (.b (decide (x = y))), [])) :
    LO TT HH [0] ir_ref02_SamePartL0 ([(2, .ptr 0 0), (3, .ptr 1 0), (5, .i 0)], [.var (Enc.cells a), .var (Enc.cells b)]) = some (if a.parts = b.parts then (.exit 0, [], [.var (Enc.cells a), .var (Enc.cells b)]) else (.ret, [(4, .b false)], [.var (Enc.cells a), .var (Enc.cells b)])) := by
  have hlo := LO_list (T := TT) (H := HH) (b := [0]) (A := ir_ref02_SamePartL0) (a.parts)
    (fun i (_ : Unit) => ([(2, .ptr 0 0), (3, .ptr 1 0), (5, .i i)], [.var (Enc.cells a), .var (Enc.cells b)]))
    (fun r i _ => if r = (b.parts).drop i then (.exit 0, [], [.var (Enc.cells a), .var (Enc.cells b)]) else (.ret, [(4, .b false)], [.var (Enc.cells a), .var (Enc.cells b)]))
    (fun _ _ => True)
    (fun _ _ => by
      have : (b.parts).drop (a.parts).length = [] := drop_end (by omega)
      have e3 : (a.parts).length < 2 ^ 63 := by omega
      simp [ir_ref02_SamePartL0, this, e3, It_.cells])
    (fun i x r _ hx hm hd hi _ => by
      obtain ⟨y, hy, hym, hdb⟩ := get_some (l := b.parts) (i := i) (by omega)
      have e1 : (i : Int) < (a.parts).length := by omega
      have e3 : (a.parts).length < 2 ^ 63 := by omega
      have hw : IntKind.i64.wrap ((i : Int) + 1) = (i : Int) + 1 := wrap_small _ (by omega) (by omega)
      have h0 := h x hm y hym
      have hc := RR_of h0 (by simp) (by simp)
      by_cases hxy : x = y
      · subst hxy
        refine .inr ⟨(), ?_, trivial, ?_⟩
        · simp [ir_ref02_SamePartL0, hx, hy, e1, e3, hw, pt_fold', hc]
        · simp [hdb]
      · refine .inl ?_
        simp [ir_ref02_SamePartL0, hx, hy, e1, e3, hw, pt_fold', hc, hdb, hxy]) 0 () (by omega) trivial
  simpa using hlo

theorem ref02_SameItem_loop (a b : It_) (hl : (a.parts).length = (b.parts).length) (hb : (b.parts).length < 2 ^ 63)
    (h : ∀ x ∈ a.parts, ∀ y ∈ b.parts, runV TT HH [] n_ref02_SamePart [x.enc, y.enc] [] = some (.ret (.b (decide (x = y))), [])) :
    LO TT HH [0] ir_ref02_SameItemL0 ([(2, .ptr 0 0), (3, .ptr 1 0), (5, .i 0)], [.var a.cells, .var b.cells]) = some (if a.parts = b.parts then (.exit 0, [], [.var a.cells, .var b.cells]) else (.ret, [(4, .b false)], [.var a.cells, .var b.cells])) := by
  have hlo := LO_list (T := TT) (H := HH) (b := [0]) (A := ir_ref02_SameItemL0) (a.parts)
    (fun i (_ : Unit) => ([(2, .ptr 0 0), (3, .ptr 1 0), (5, .i i)], [.var a.cells, .var b.cells]))
    (fun r i _ => if r = (b.parts).drop i then (.exit 0, [], [.var a.cells, .var b.cells]) else (.ret, [(4, .b false)], [.var a.cells, .var b.cells]))
    (fun _ _ => True)
    (fun _ _ => by
      have : (b.parts).drop (a.parts).length = [] := drop_end (by omega)
      have e3 : (a.parts).length < 2 ^ 63 := by omega
      simp [ir_ref02_SameItemL0, this, e3, It_.cells])
    (fun i x r _ hx hm hd hi _ => by
      obtain ⟨y, hy, hym, hdb⟩ := get_some (l := b.parts) (i := i) (by omega)
      have e1 : (i : Int) < (a.parts).length := by omega
      have e3 : (a.parts).length < 2 ^ 63 := by omega
      have hw : IntKind.i64.wrap ((i : Int) + 1) = (i : Int) + 1 := wrap_small _ (by omega) (by omega)
      have h0 := h x hm y hym
      have hc := RR_of h0 (by simp) (by simp)
      by_cases hxy : x = y
      · subst hxy
        refine .inr ⟨(), ?_, trivial, ?_⟩
        · simp [ir_ref02_SameItemL0, hx, hy, It_.cells, e1, e3, hw, pt_fold', hc]
        · simp [hdb]
      · refine .inl ?_
        simp [ir_ref02_SameItemL0, hx, hy, It_.cells, e1, e3, hw, pt_fold', hc, hdb, hxy]) 0 () (by omega) trivial
  simpa using hlo

theorem ref03_Same_spec : ∀ a : Tm, a.ok → ∀ b : Tm, b.ok → runV TT HH [] n_ref03_Same [a.enc, b.enc] [] = some (.ret (.b (decide (a = b))), []) :=
  Tm.ind fun a ih ha b hb => by
    rw [eq_ref03_Same]
    have hla := ml (ha.len)
    have hlb := ml (hb.len)
    by_cases h0 : a.op = b.op
    rotate_left
    · simp [ir_ref03_Same, Tm.ext_iff, h0, hla]
    by_cases h1 : a.hd = b.hd
    rotate_left
    · simp [ir_ref03_Same, Tm.ext_iff, h1, h0, hla]
    by_cases h2 : a.n = b.n
    rotate_left
    · simp [ir_ref03_Same, Tm.ext_iff, h2, h0, h1, hla]
    by_cases hl : (a.args).length = (b.args).length
    rotate_left
    · have hne : a.args ≠ b.args := fun e => hl (by rw [e])
      have hl2 : ¬ ((a.args).length : Int) = (b.args).length := by omega
      simp [ir_ref03_Same, Tm.ext_iff, h0, h1, h2, hla, hla, hlb, hl2, hne]
    have hlo := ref03_Same_loop a b hl hlb (fun x hx y hy => ih x hx (ha.sub x hx) y (hb.sub y hy))
    simp [It_.cells, h0, h1, h2] at hlo
    by_cases hp : a.args = b.args <;> simp [hp] at hlo <;> simp [ir_ref03_Same, Tm.ext_iff, h0, h1, h2, hla, hla, hlb, hl, hp, hlo]
theorem ref02_Same_spec : ∀ a : Rw, a.ok → ∀ b : Rw, b.ok → runV TT HH [] n_ref02_Same [a.enc, b.enc] [] = some (.ret (.b (decide (a = b))), []) :=
  Rw.ind fun a ih ha b hb => by
    rw [eq_ref02_Same]
    have hla := ml (ha.len)
    have hlb := ml (hb.len)
    by_cases h0 : a.op = b.op
    rotate_left
    · simp [ir_ref02_Same, Rw.ext_iff, h0, hla]
    by_cases h1 : a.name = b.name
    rotate_left
    · simp [ir_ref02_Same, Rw.ext_iff, h1, h0, hla]
    by_cases hl : (a.args).length = (b.args).length
    rotate_left
    · have hne : a.args ≠ b.args := fun e => hl (by rw [e])
      have hl2 : ¬ ((a.args).length : Int) = (b.args).length := by omega
      simp [ir_ref02_Same, Rw.ext_iff, h0, h1, hla, hla, hlb, hl2, hne]
    have hlo := ref02_Same_loop a b hl hlb (fun x hx y hy => ih x hx (ha.sub x hx) y (hb.sub y hy))
    simp [It_.cells, h0, h1] at hlo
    by_cases hp : a.args = b.args <;> simp [hp] at hlo <;> simp [ir_ref02_Same, Rw.ext_iff, h0, h1, hla, hla, hlb, hl, hp, hlo]
theorem ref02_SamePart_spec : ∀ a : Pt, a.ok → ∀ b : Pt, b.ok → runV TT HH [] n_ref02_SamePart [a.enc, b.enc] [] = some (.ret (.b (decide (a = b))), []) :=
  Pt.ind fun a ih ha b hb => by
    rw [eq_ref02_SamePart]
    have hla := ml (ha.len)
    have hlb := ml (hb.len)
    have hr := RR_of (ref02_Same_spec a.raw ha.rw b.raw hb.rw) (by simp) (by simp)
    by_cases h0 : a.op = b.op
    rotate_left
    · simp [ir_ref02_SamePart, Pt.ext_iff, h0, rw_fold', hr]
    by_cases h1 : a.sign = b.sign
    rotate_left
    · simp [ir_ref02_SamePart, Pt.ext_iff, h1, h0, rw_fold', hr]
    by_cases h2 : a.name = b.name
    rotate_left
    · simp [ir_ref02_SamePart, Pt.ext_iff, h2, h0, h1, rw_fold', hr]
    by_cases h3 : a.n = b.n
    rotate_left
    · simp [ir_ref02_SamePart, Pt.ext_iff, h3, h0, h1, h2, rw_fold', hr]
    by_cases h4 : a.raw = b.raw
    rotate_left
    · simp [ir_ref02_SamePart, Pt.ext_iff, h4, h0, h1, h2, h3, rw_fold', hr]
    rw [h4] at hr
    by_cases hl : (a.parts).length = (b.parts).length
    rotate_left
    · have hne : a.parts ≠ b.parts := fun e => hl (by rw [e])
      have hl2 : ¬ ((a.parts).length : Int) = (b.parts).length := by omega
      simp [ir_ref02_SamePart, Pt.ext_iff, h0, h1, h2, h3, h4, rw_fold', hr, hla, hlb, hl2, hne]
    have hlo := ref02_SamePart_loop a b hl hlb (fun x hx y hy => ih x hx (ha.sub x hx) y (hb.sub y hy))
    simp [It_.cells, h0, h1, h2, h3, h4] at hlo
    by_cases hp : a.parts = b.parts <;> simp [hp] at hlo <;> simp [ir_ref02_SamePart, Pt.ext_iff, h0, h1, h2, h3, h4, rw_fold', hr, hla, hlb, hl, hp, hlo]
theorem ref02_SameItem_spec : ∀ a : It_, a.ok → ∀ b : It_, b.ok → runV TT HH [] n_ref02_SameItem [a.enc, b.enc] [] = some (.ret (.b (decide (a = b))), []) :=
  fun a ha b hb => by
    rw [eq_ref02_SameItem]
    have hla := ml (ha.2.2.2.1)
    have hlb := ml (hb.2.2.2.1)
    have hr := RR_of (ref02_Same_spec a.raw ha.2.2.1 b.raw hb.2.2.1) (by simp) (by simp)
    by_cases h0 : a.word = b.word
    rotate_left
    · simp [ir_ref02_SameItem, It_.ext_iff', h0, rw_fold', hr]
    by_cases h1 : a.name = b.name
    rotate_left
    · simp [ir_ref02_SameItem, It_.ext_iff', h1, h0, rw_fold', hr]
    by_cases h2 : a.raw = b.raw
    rotate_left
    · simp [ir_ref02_SameItem, It_.ext_iff', h2, h0, h1, rw_fold', hr]
    rw [h2] at hr
    by_cases hl : (a.parts).length = (b.parts).length
    rotate_left
    · have hne : a.parts ≠ b.parts := fun e => hl (by rw [e])
      have hl2 : ¬ ((a.parts).length : Int) = (b.parts).length := by omega
      simp [ir_ref02_SameItem, It_.ext_iff', h0, h1, h2, rw_fold', hr, hla, hlb, hl2, hne]
    have hlo := ref02_SameItem_loop a b hl hlb (fun x hx y hy => ref02_SamePart_spec x (ha.2.2.2.2 x hx) y (hb.2.2.2.2 y hy))
    simp [It_.cells, h0, h1, h2] at hlo
    by_cases hp : a.parts = b.parts <;> simp [hp] at hlo <;> simp [ir_ref02_SameItem, It_.ext_iff', h0, h1, h2, rw_fold', hr, hla, hlb, hl, hp, hlo]
theorem ref05_Same_spec (a b : List Dc) (ha : a.length < 2 ^ 63) (hb : b.length < 2 ^ 63) (oa : ∀ x ∈ a, x.ok) (ob : ∀ x ∈ b, x.ok) :
    runV TT HH [] n_ref05_Same [.sl false (encL a), .sl false (encL b)] [] = some (.ret (.b (decide (a = b))), []) := by
  rw [eq_ref05_Same]
  by_cases hl : a.length = b.length
  · have hlo := LO_list (T := TT) (H := HH) (b := [0]) (A := ir_ref05_SameL0) a
      (fun i (_ : Unit) => ([(1, .sl false (encL b)), (12, .sl false (encL a)), (13, .i a.length), (14, .i i)], []))
      (fun r i _ => if r = b.drop i then (.exit 0, [], []) else (.ret, [(4, .b false)], []))
      (fun _ _ => True)
      (fun _ _ => by
        have : b.drop a.length = [] := drop_end (by omega)
        simp [ir_ref05_SameL0, this])
      (fun i x r _ hx hm hd hi _ => by
        obtain ⟨y, hy, hym, hdb⟩ := get_some (l := b) (i := i) (by omega)
        have hc := RR_of (ref03_Same_spec x.class_ (oa x hm).2.1 y.class_ (ob y hym).2.1) (by simp) (by simp)
        have e1 : (i : Int) < a.length := by omega
        have hw : IntKind.i64.wrap ((i : Int) + 1) = (i : Int) + 1 := wrap_small _ (by omega) (by omega)
        by_cases hxy : x = y
        · subst hxy
          refine .inr ⟨(), ?_, trivial, ?_⟩
          · simp [ir_ref05_SameL0, hx, hy, e1, hw, tm_fold', hc]
          · simp [hdb]
        · refine .inl ?_
          have hne : (x :: r = y :: b.drop (i + 1)) = False := by simp [hxy]
          have hxy' := hxy
          rw [Dc.ext_iff'] at hxy'
          by_cases h1 : x.name = y.name
          · by_cases h2 : x.imp = y.imp
            · have h3 : ¬ x.class_ = y.class_ := fun h3 => hxy' ⟨h1, h2, h3⟩
              simp [ir_ref05_SameL0, hx, hy, e1, hw, tm_fold', hc, hdb, hxy, h1, h2, h3]
            · simp [ir_ref05_SameL0, hx, hy, e1, hw, tm_fold', hc, hdb, hxy, h1, h2]
          · simp [ir_ref05_SameL0, hx, hy, e1, hw, tm_fold', hc, hdb, hxy, h1]) 0 () (by omega) trivial
    simp [hl] at hlo
    by_cases hab : a = b <;> simp [hab] at hlo <;> simp [ir_ref05_Same, hl, hb, hab, hlo]
  · have hab : a ≠ b := fun e => hl (by rw [e])
    have hl' : ¬ (a.length : Int) = b.length := by omega
    simp [ir_ref05_Same, ha, hb, hl', hab]

theorem ref11_Same_spec (a b : Ld) (ha : a.ok) (hb : b.ok) : runV TT HH [] n_ref11_Same [a.enc, b.enc] [] = some (.ret (.b (decide (a = b))), []) := by
  rw [eq_ref11_Same]
  have h5 := RR_of (ref05_Same_spec a.sig b.sig (ml ha.1) (ml hb.1) ha.2.1 hb.2.1) (by simp) (by simp)
  have hla := ml ha.2.2.1
  have hlb := ml hb.2.2.1
  by_cases h0 : a.sig = b.sig
  rotate_left
  · simp [ir_ref11_Same, Ld.ext_iff', h0, h5]
  rw [h0] at h5
  by_cases hl : a.words.length = b.words.length
  rotate_left
  · have hne : a.words ≠ b.words := fun e => hl (by rw [e])
    have hl2 : ¬ (a.words.length : Int) = b.words.length := by omega
    simp [ir_ref11_Same, Ld.ext_iff', h0, h5, hla, hlb, hl2, hne]
  have hlo := LO_list (T := TT) (H := HH) (b := [0]) (A := ir_ref11_SameL0) a.words
    (fun i (_ : Unit) => ([(3, .ptr 1 0), (23, .sl false (encL a.words)), (24, .i a.words.length), (25, .i i)], [.var [.sl false (encL a.sig), .sl false (encL a.words)], .var [.sl false (encL b.sig), .sl false (encL b.words)]]))
    (fun r i _ => if r = b.words.drop i then (.exit 0, [], [.var [.sl false (encL a.sig), .sl false (encL a.words)], .var [.sl false (encL b.sig), .sl false (encL b.words)]]) else (.ret, [(4, .b false)], [.var [.sl false (encL a.sig), .sl false (encL a.words)], .var [.sl false (encL b.sig), .sl false (encL b.words)]]))
    (fun _ _ => True)
    (fun _ _ => by
      have : b.words.drop a.words.length = [] := drop_end (by omega)
      simp [ir_ref11_SameL0, this])
    (fun i x r _ hx hm hd hi _ => by
      obtain ⟨y, hy, hym, hdb⟩ := get_some (l := b.words) (i := i) (by omega)
      have hc := RR_of (ref02_SameItem_spec x.item (ha.2.2.2 x hm).1 y.item (hb.2.2.2 y hym).1) (by simp) (by simp)
      have e1 : (i : Int) < a.words.length := by omega
      have hw : IntKind.i64.wrap ((i : Int) + 1) = (i : Int) + 1 := wrap_small _ (by omega) (by omega)
      by_cases hxy : x = y
      · subst hxy
        refine .inr ⟨(), ?_, trivial, ?_⟩
        · simp [ir_ref11_SameL0, hx, hy, e1, hw, it_fold', hc]
        · simp [hdb]
      · refine .inl ?_
        have hxy' := hxy
        rw [Dv.ext_iff'] at hxy'
        by_cases h1 : x.after = y.after
        · have h3 : ¬ x.item = y.item := fun h3 => hxy' ⟨h1, h3⟩
          simp [ir_ref11_SameL0, hx, hy, e1, hw, it_fold', hc, hdb, hxy, h1, h3]
        · simp [ir_ref11_SameL0, hx, hy, e1, hw, it_fold', hc, hdb, hxy, h1]) 0 () (by omega) trivial
  simp [hl, h0] at hlo
  by_cases hp : a.words = b.words <;> simp [hp] at hlo <;> simp [ir_ref11_Same, Ld.ext_iff', h0, h5, hla, hlb, hl, hp, hlo]

theorem ld_fold (l : Ld) : PV.agg [.sl false (encL l.sig), .sl false (encL l.words)] = l.enc := rfl

theorem LoadSame_spec (a b : Ld) (ha : a.ok) (hb : b.ok) : runV TT HH [] n_law11_LoadSame [a.enc, b.enc] [] = some (.ret (.b true), []) := by
  rw [eq_law11_LoadSame]
  have p1 := RR_of (load_Same_spec a ha b hb) (by simp) (by simp)
  have p2 := RR_of (load_Same_spec b hb a ha) (by simp) (by simp)
  have p3 := RR_of (load_Same_spec a ha a ha) (by simp) (by simp)
  have r1 := RR_of (ref11_Same_spec a b ha hb) (by simp) (by simp)
  have aw := RR_of awake_law11_awake (by simp) (by decide)
  by_cases h : a = b
  · subst h
    simp [ir_law11_LoadSame, ld_fold, p1, r1, aw]
  · have h2 : ¬ b = a := fun e => h e.symm
    simp [h] at p1 r1
    simp [h2] at p2
    simp at p3
    simp [ir_law11_LoadSame, ld_fold, p1, p2, p3, r1, aw]

end Go.Ev

/- The law at the arguments of a row. -/
namespace Go.Ev
open Go.Proofs
theorem LoadSame_run (n : Nat) (pvs : List PV) (h : HasTysV Tryz.prog n [53, 53] pvs) : runV TT HH [] 5 pvs [] = some (.ret (.b true), []) := by
  have hr : ∀ n, Holds Tryz.prog 106 Rw.ok n := dec_rw (ti := 3) (tn := 9) (ts := 104) Tryz.underlying3 Tryz.underlying9 Tryz.underlying104 Tryz.underlying106 rfl rfl rfl
  have ht : ∀ n, Holds Tryz.prog 46 Tm.ok n := dec_tm (ti := 3) (ts := 24) Tryz.underlying3 Tryz.underlying24 Tryz.underlying46 rfl rfl rfl rfl
  have hp : ∀ n, Holds Tryz.prog 115 Pt.ok n := dec_pt (ti := 3) (tn := 9) (tr := 106) (ts := 107) Tryz.underlying3 Tryz.underlying9 hr Tryz.underlying107 Tryz.underlying115 rfl rfl rfl rfl rfl rfl
  have hd : ∀ n, Holds Tryz.prog 61 Dc.ok n := dec_dc (ti := 3) (tn := 9) (tt := 46) Tryz.underlying3 Tryz.underlying9 ht Tryz.underlying61 rfl rfl rfl
  have hv : ∀ n, Holds Tryz.prog 111 Dv.ok n := dec_dv (ti := 3) (tn := 9) (tr := 106) (tp := 115) (tps := 107) (tit := 109) Tryz.underlying3 Tryz.underlying9 hr hp Tryz.underlying107 Tryz.underlying109 rfl rfl rfl rfl Tryz.underlying111 rfl rfl
  obtain ⟨a, b, rfl, ha, hb⟩ := two_ld (P := Tryz.prog) (t := 53) (fun p hp => dec_ld (td := 61) (tds := 22) (tv := 111) (tvs := 51) hd Tryz.underlying22 hv Tryz.underlying51 Tryz.underlying53 rfl rfl hp) h
  exact LoadSame_spec a b ha hb
end Go.Ev
