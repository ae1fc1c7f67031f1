/- Names: the program's functions and the reference's. -/
import Derived.Test.YtcjblapcdbjoiaaGreatDoorEvJ
import Derived.Test.YtcjblapcdbjoiaaGreatDoorEvL
set_option linter.unnecessarySimpa false
set_option linter.unusedVariables false
set_option linter.unusedSimpArgs false
set_option linter.unusedSectionVars false
namespace Go.Ev
def isSm (c : Int) : Bool := decide (97 ≤ c) && decide (c ≤ 122)
def isCp (c : Int) : Bool := decide (65 ≤ c) && decide (c ≤ 90)
def isDg (c : Int) : Bool := decide (48 ≤ c) && decide (c ≤ 57)
def isNb (c : Int) : Bool := isSm c || isCp c || isDg c || decide (c = 95) || decide (c = 39)
def bts (s : ByteArray) : List Int := s.data.toList.map fun b => (b.toNat : Int)
@[simp] theorem bts_length (s : ByteArray) : (bts s).length = s.size := by simp [bts]
theorem ba_get (s : ByteArray) (i : Nat) : s[i]? = s.data.toList[i]? := by
 by_cases h : i < s.size
 ·rw [getElem?_pos s i h,List.getElem?_eq_getElem (by simpa using h)]; rfl
 ·rw [getElem?_neg s i h,List.getElem?_eq_none (by simpa using h)]
theorem bts_get {s : ByteArray} {i : Nat} {x : Int} (h : (bts s)[i]? = some x) : ∃ b : UInt8,s[i]? = some b ∧ (b.toNat : Int) = x := by
 simp only [bts,List.getElem?_map,Option.map_eq_some_iff] at h
 obtain ⟨b,h1,h2⟩ := h
 exact ⟨b,by rw [ba_get,h1],h2⟩
theorem bts_first {s : ByteArray} (h : s.size ≠ 0) : ∃ b : UInt8,s[0]? = some b ∧ (bts s).headD 0 = b.toNat := by
 obtain ⟨x,hx,-,-⟩ := get_some (l := bts s) (i := 0) (by simp; omega)
 obtain ⟨b,hb,rfl⟩ := bts_get hx
 exact ⟨b,hb,by cases hl : bts s <;> simp [hl] at hx ⊢; exact hx⟩
def nmB (f : Int → Bool) (l : List Int) : Bool := decide (1 ≤ l.length) && decide (l.length ≤ 16) && f (l.headD 0) && l.all isNb
def isCon (s : ByteArray) : Bool := nmB isSm (bts s) && !decide (s = ⟨#[116,121,112,101]⟩)
abbrev PV.u8 (n : Int) : PV := .k (.int .u8 n)
theorem lexis_small_spec (c : Int) : runV TT HH [] n_lexis_small [.u8 c] [] = some (.ret (.b (isSm c)),[]) := by
 rw [eq_lexis_small]
 simp [ir_lexis_small]
 repeat' ((first | refine kG_split ?_ ?_ | refine kIf_split ?_ ?_ | refine bB_split ?_ ?_ | refine kO_split ?_ ?_ | refine kCl_split ?_ ?_) <;> intro h <;> (try simp only [decide_eq_true_eq,decide_eq_false_iff_not,Bool.not_eq_true] at h) <;> simp [h,ir_lexis_small])
 all_goals (simp_all [isSm] <;> omega)
theorem lexis_capital_spec (c : Int) : runV TT HH [] n_lexis_capital [.u8 c] [] = some (.ret (.b (isCp c)),[]) := by
 rw [eq_lexis_capital]
 simp [ir_lexis_capital]
 repeat' ((first | refine kG_split ?_ ?_ | refine kIf_split ?_ ?_ | refine bB_split ?_ ?_ | refine kO_split ?_ ?_ | refine kCl_split ?_ ?_) <;> intro h <;> (try simp only [decide_eq_true_eq,decide_eq_false_iff_not,Bool.not_eq_true] at h) <;> simp [h,ir_lexis_capital])
 all_goals (simp_all [isCp] <;> omega)
theorem lexis_digit_spec (c : Int) : runV TT HH [] n_lexis_digit [.u8 c] [] = some (.ret (.b (isDg c)),[]) := by
 rw [eq_lexis_digit]
 simp [ir_lexis_digit]
 repeat' ((first | refine kG_split ?_ ?_ | refine kIf_split ?_ ?_ | refine bB_split ?_ ?_ | refine kO_split ?_ ?_ | refine kCl_split ?_ ?_) <;> intro h <;> (try simp only [decide_eq_true_eq,decide_eq_false_iff_not,Bool.not_eq_true] at h) <;> simp [h,ir_lexis_digit])
 all_goals (simp_all [isDg] <;> omega)
theorem lexis_nameByte_spec (c : Int) : runV TT HH [] n_lexis_nameByte [.u8 c] [] = some (.ret (.b (isNb c)),[]) := by
 rw [eq_lexis_nameByte]
 have h1 := RR_of (lexis_small_spec c) rfl (by simp)
 have h2 := RR_of (lexis_capital_spec c) rfl (by simp)
 have h3 := RR_of (lexis_digit_spec c) rfl (by simp)
 simp [ir_lexis_nameByte,h1,h2,h3]
 repeat' ((first | refine kG_split ?_ ?_ | refine kIf_split ?_ ?_ | refine bB_split ?_ ?_ | refine kO_split ?_ ?_ | refine kCl_split ?_ ?_) <;> intro h <;> (try simp only [decide_eq_true_eq,decide_eq_false_iff_not,Bool.not_eq_true] at h) <;> simp [h,ir_lexis_nameByte,h1,h2,h3])
 all_goals simp_all [isNb]
theorem lexis_name_spec (s : ByteArray) (g : FuncId) (hg : g < YB) (f : Int → Bool) (hf : ∀ c,runV TT HH [] g [.u8 c] [] = some (.ret (.b (f c)),[])) (hs : s.size < 2 ^ 63) :
  runV TT HH [] n_lexis_name [.s s,.fn (.func g) []] [] = some (.ret (.b (nmB f (bts s))),[]) := by
 rw [eq_lexis_name]
 have hlo := LO_list (T := TT) (H := HH) (b := [0]) (A := ir_lexis_nameL0) (bts s)
  (fun i (_ : Unit) => ([(0,.s s),(22,.i s.size),(23,.i i)],[]))
  (fun r i _ => if r.all isNb then (.exit 0,[],[]) else (.ret,[(4,.b false)],[]))
  (fun _ _ => True)
  (fun _ _ => by
   rw [E_EK]
   simp [ir_lexis_nameL0])
  (fun i x r _ hx hm hd hi _ => by
   obtain ⟨b,hb,rfl⟩ := bts_get hx
   simp at hi
   have hc := RR_of (lexis_nameByte_spec (b.toNat : Int)) rfl (by simp)
   have e1 : (i : Int) < s.size := by omega
   have hw : IntKind.i64.wrap ((i : Int) + 1) = (i : Int) + 1 := wrap_small _ (by omega) (by omega)
   rw [E_EK]
   cases h : isNb (b.toNat : Int) <;> simp [ir_lexis_nameL0,e1,hb,hc,hw,h]) 0 () (by omega) trivial
 simp [-List.all_eq_true] at hlo
 have hf := fun c => RR_of (hf c) rfl hg
 by_cases h0 : s.size = 0
 ·simp [ir_lexis_name,h0,nmB]
 obtain ⟨b,hb,hd⟩ := bts_first h0
 have e1 : ¬ (s.size : Int) < 1 := by omega
 cases ha : (bts s).all isNb <;> simp [ha] at hlo
 all_goals simp [ir_lexis_name,hs,hf,hg,hlo,hb,e1]
 all_goals repeat' ((first | refine kG_split ?_ ?_ | refine kIf_split ?_ ?_ | refine bB_split ?_ ?_ | refine kO_split ?_ ?_ | refine kCl_split ?_ ?_) <;> intro h <;> (try simp only [decide_eq_true_eq,decide_eq_false_iff_not,Bool.not_eq_true] at h) <;> simp [h,ir_lexis_name,hs,hf,hg,hlo,hb,e1])
 all_goals (simp only [nmB,hd,ha,bts_length] at *; simp_all <;> omega)
theorem lexis_IsSmall_spec (s : ByteArray) (hs : s.size < 2 ^ 63) : runV TT HH [] n_lexis_IsSmall [.s s] [] = some (.ret (.b (nmB isSm (bts s))),[]) := by
 rw [eq_lexis_IsSmall]
 have h1 := RR_of (lexis_name_spec s n_lexis_small (by simp) isSm lexis_small_spec hs) rfl (by simp)
 simp [ir_lexis_IsSmall,h1]
 repeat' ((first | refine kG_split ?_ ?_ | refine kIf_split ?_ ?_ | refine bB_split ?_ ?_ | refine kO_split ?_ ?_ | refine kCl_split ?_ ?_) <;> intro h <;> (try simp only [decide_eq_true_eq,decide_eq_false_iff_not,Bool.not_eq_true] at h) <;> simp [h,ir_lexis_IsSmall,h1])
theorem lexis_IsCapital_spec (s : ByteArray) (hs : s.size < 2 ^ 63) : runV TT HH [] n_lexis_IsCapital [.s s] [] = some (.ret (.b (nmB isCp (bts s))),[]) := by
 rw [eq_lexis_IsCapital]
 have h1 := RR_of (lexis_name_spec s n_lexis_capital (by simp) isCp lexis_capital_spec hs) rfl (by simp)
 simp [ir_lexis_IsCapital,h1]
 repeat' ((first | refine kG_split ?_ ?_ | refine kIf_split ?_ ?_ | refine bB_split ?_ ?_ | refine kO_split ?_ ?_ | refine kCl_split ?_ ?_) <;> intro h <;> (try simp only [decide_eq_true_eq,decide_eq_false_iff_not,Bool.not_eq_true] at h) <;> simp [h,ir_lexis_IsCapital,h1])
theorem sign_name_spec (s : ByteArray) (hs : s.size < 2 ^ 63) : runV TT HH [] n_sign_name [.s s] [] = some (.ret (.b (isCon s)),[]) := by
 rw [eq_sign_name]
 have h1 := RR_of (lexis_IsSmall_spec s hs) rfl (by simp)
 simp [ir_sign_name,h1]
 repeat' ((first | refine kG_split ?_ ?_ | refine kIf_split ?_ ?_ | refine bB_split ?_ ?_ | refine kO_split ?_ ?_ | refine kCl_split ?_ ?_) <;> intro h <;> (try simp only [decide_eq_true_eq,decide_eq_false_iff_not,Bool.not_eq_true] at h) <;> simp [h,ir_sign_name,h1])
 all_goals simp_all [isCon]
theorem ref01_small_spec (c : Int) : runV TT HH [] n_ref01_small [.u8 c] [] = some (.ret (.b (isSm c)),[]) := by
 rw [eq_ref01_small]
 simp [ir_ref01_small]
 repeat' ((first | refine kG_split ?_ ?_ | refine kIf_split ?_ ?_ | refine bB_split ?_ ?_ | refine kO_split ?_ ?_ | refine kCl_split ?_ ?_) <;> intro h <;> (try simp only [decide_eq_true_eq,decide_eq_false_iff_not,Bool.not_eq_true] at h) <;> simp [h,ir_ref01_small])
 all_goals (simp_all [isSm] <;> omega)
theorem ref01_letter_spec (c : Int) : runV TT HH [] n_ref01_letter [.u8 c] [] = some (.ret (.b (isSm c || isCp c)),[]) := by
 rw [eq_ref01_letter]
 have h1 := RR_of (ref01_small_spec c) rfl (by simp)
 simp [ir_ref01_letter,h1]
 repeat' ((first | refine kG_split ?_ ?_ | refine kIf_split ?_ ?_ | refine bB_split ?_ ?_ | refine kO_split ?_ ?_ | refine kCl_split ?_ ?_) <;> intro h <;> (try simp only [decide_eq_true_eq,decide_eq_false_iff_not,Bool.not_eq_true] at h) <;> simp [h,ir_ref01_letter,h1])
 all_goals (simp_all [isCp] <;> omega)
theorem ref01_byteOf_spec (c : Int) : runV TT HH [] n_ref01_byteOf [.u8 c] [] = some (.ret (.b (isNb c)),[]) := by
 rw [eq_ref01_byteOf]
 have h1 := RR_of (ref01_letter_spec c) rfl (by simp)
 simp [ir_ref01_byteOf,h1]
 repeat' ((first | refine kG_split ?_ ?_ | refine kIf_split ?_ ?_ | refine bB_split ?_ ?_ | refine kO_split ?_ ?_ | refine kCl_split ?_ ?_) <;> intro h <;> (try simp only [decide_eq_true_eq,decide_eq_false_iff_not,Bool.not_eq_true] at h) <;> simp [h,ir_ref01_byteOf,h1])
 all_goals (simp_all [isNb,isDg] <;> omega)
theorem tw_all (l : List Int) (p : Int → Bool) : decide (((l.takeWhile p).length : Int) = l.length) = l.all p := by
 induction l with
 | nil => rfl
 | cons a r ih =>
  cases h : p a
  ·simp [List.takeWhile_cons,h]; omega
  ·simp [List.takeWhile_cons,h,← ih]
theorem ref01_run_spec (s : ByteArray) (hs : s.size < 2 ^ 63) : runV TT HH [] n_ref01_run [.s s,.i 0] [] = some (.ret (.i ((bts s).takeWhile isNb).length),[]) := by
 rw [eq_ref01_run]
 have hlo := LO_list (T := TT) (H := HH) (b := [0]) (A := ir_ref01_runL0) (bts s)
  (fun i (_ : Unit) => ([(0,.s s),(1,.i i)],[]))
  (fun r i _ => (.exit 0,[(1,.i (i + (r.takeWhile isNb).length))],[]))
  (fun _ _ => True)
  (fun _ _ => by
   rw [E_EK]
   simp [ir_ref01_runL0,hs])
  (fun i x r _ hx hm hd hi _ => by
   obtain ⟨b,hb,rfl⟩ := bts_get hx
   simp at hi
   have hc := RR_of (ref01_byteOf_spec (b.toNat : Int)) rfl (by simp)
   have e1 : (i : Int) < s.size := by omega
   have hw : IntKind.i64.wrap ((i : Int) + 1) = (i : Int) + 1 := wrap_small _ (by omega) (by omega)
   rw [E_EK]
   cases h : isNb (b.toNat : Int) <;> simp [ir_ref01_runL0,hs,e1,hb,hc,hw,h,List.takeWhile_cons]
   omega) 0 () (by omega) trivial
 simp at hlo
 simp [ir_ref01_run,hlo]
theorem ref01_IsName_spec (s : ByteArray) (hs : s.size < 2 ^ 63) : runV TT HH [] n_ref01_IsName [.s s] [] = some (.ret (.b (nmB (fun c => isSm c || isCp c) (bts s))),[]) := by
 rw [eq_ref01_IsName]
 have h1 := RR_of (ref01_run_spec s hs) rfl (by simp)
 by_cases h0 : s.size = 0
 ·simp [ir_ref01_IsName,h0,nmB]
 obtain ⟨b,hb,hd⟩ := bts_first h0
 have e1 : (1 : Int) ≤ s.size := by omega
 have h2 := RR_of (ref01_letter_spec b.toNat) rfl (by simp)
 have ht := tw_all (bts s) isNb
 simp only [bts_length] at ht
 simp [ir_ref01_IsName,hs,h1,h2,hb,e1]
 repeat' ((first | refine kG_split ?_ ?_ | refine kIf_split ?_ ?_ | refine bB_split ?_ ?_ | refine kO_split ?_ ?_ | refine kCl_split ?_ ?_) <;> intro h <;> (try simp only [decide_eq_true_eq,decide_eq_false_iff_not,Bool.not_eq_true] at h) <;> simp [h,ir_ref01_IsName,hs,h1,h2,hb,e1])
 all_goals (simp only [nmB,hd,bts_length,← ht] at *; simp_all <;> omega)
theorem nm_nil (f : Int → Bool) (s : ByteArray) (h : s.size = 0) : nmB f (bts s) = false := by simp [nmB,h]
theorem ref01_IsSmall_spec (s : ByteArray) (hs : s.size < 2 ^ 63) : runV TT HH [] n_ref01_IsSmall [.s s] [] = some (.ret (.b (nmB isSm (bts s))),[]) := by
 rw [eq_ref01_IsSmall]
 have h1 := RR_of (ref01_IsName_spec s hs) rfl (by simp)
 by_cases h0 : s.size = 0
 ·simp [ir_ref01_IsSmall,h1,nm_nil _ s h0]
 obtain ⟨b,hb,hd⟩ := bts_first h0
 have h2 := RR_of (ref01_small_spec b.toNat) rfl (by simp)
 simp [ir_ref01_IsSmall,hs,h1,h2,hb]
 repeat' ((first | refine kG_split ?_ ?_ | refine kIf_split ?_ ?_ | refine bB_split ?_ ?_ | refine kO_split ?_ ?_ | refine kCl_split ?_ ?_) <;> intro h <;> (try simp only [decide_eq_true_eq,decide_eq_false_iff_not,Bool.not_eq_true] at h) <;> simp [h,ir_ref01_IsSmall,hs,h1,h2,hb])
 all_goals (simp only [nmB,hd,bts_length] at *; simp_all <;> omega)
theorem ref05_IsName_spec (s : ByteArray) (hs : s.size < 2 ^ 63) : runV TT HH [] n_ref05_IsName [.s s] [] = some (.ret (.b (isCon s)),[]) := by
 rw [eq_ref05_IsName]
 have h1 := RR_of (ref01_IsSmall_spec s hs) rfl (by simp)
 simp [ir_ref05_IsName,hs,h1]
 repeat' ((first | refine kG_split ?_ ?_ | refine kIf_split ?_ ?_ | refine bB_split ?_ ?_ | refine kO_split ?_ ?_ | refine kCl_split ?_ ?_) <;> intro h <;> (try simp only [decide_eq_true_eq,decide_eq_false_iff_not,Bool.not_eq_true] at h) <;> simp [h,ir_ref05_IsName,hs,h1])
 all_goals simp_all [isCon]
def isNm (s : ByteArray) : Bool := nmB (fun c => isSm c || isCp c) (bts s) && !decide (s = ⟨#[116,121,112,101]⟩)
theorem nm_or (l : List Int) : nmB (fun c => isSm c || isCp c) l = (nmB isSm l || nmB isCp l) := by
 show (_ && _ && (isSm (l.headD 0) || isCp (l.headD 0)) && _) = (_ || _)
 unfold nmB
 cases decide (1 ≤ l.length) <;> cases decide (l.length ≤ 16) <;> cases isSm (l.headD 0) <;> cases isCp (l.headD 0) <;> cases l.all isNb <;> rfl
theorem isNm_eq (s : ByteArray) : isNm s = (nmB isCp (bts s) || (nmB isSm (bts s) && !decide (s = ⟨#[116,121,112,101]⟩))) := by
 unfold isNm
 rw [nm_or]
 by_cases h : s = ⟨#[116,121,112,101]⟩
 ·subst h; decide
 ·simp [h,Bool.or_comm]
theorem ref02_IsName_spec (s : ByteArray) (hs : s.size < 2 ^ 63) : runV TT HH [] n_ref02_IsName [.s s] [] = some (.ret (.b (isNm s)),[]) := by
 rw [eq_ref02_IsName]
 have h1 := RR_of (ref01_IsName_spec s hs) rfl (by simp)
 simp [ir_ref02_IsName,hs,h1]
 repeat' ((first | refine kG_split ?_ ?_ | refine kIf_split ?_ ?_ | refine bB_split ?_ ?_ | refine kO_split ?_ ?_ | refine kCl_split ?_ ?_) <;> intro h <;> (try simp only [decide_eq_true_eq,decide_eq_false_iff_not,Bool.not_eq_true] at h) <;> simp [h,ir_ref02_IsName,hs,h1])
 all_goals simp_all [isNm]
theorem syntax_named_spec (s : ByteArray) (hs : s.size < 2 ^ 63) : runV TT HH [] n_syntax_named [.s s] [] = some (.ret (.b (isNm s)),[]) := by
 rw [eq_syntax_named]
 have h1 := RR_of (lexis_IsSmall_spec s hs) rfl (by simp)
 have h2 := RR_of (lexis_IsCapital_spec s hs) rfl (by simp)
 simp [ir_syntax_named,hs,h1,h2]
 repeat' ((first | refine kG_split ?_ ?_ | refine kIf_split ?_ ?_ | refine bB_split ?_ ?_ | refine kO_split ?_ ?_ | refine kCl_split ?_ ?_) <;> intro h <;> (try simp only [decide_eq_true_eq,decide_eq_false_iff_not,Bool.not_eq_true] at h) <;> simp [h,ir_syntax_named,hs,h1,h2])
 all_goals simp_all [isNm_eq]
end Go.Ev


namespace Go.Ev
def Tm.under (t : Tm) (i : Int) : Int := if t.op = 3 ∨ (t.op = 2 ∧ i = 1) then 1 else 0
theorem term_Under_spec (t : Tm) (i : Int) : runV TT HH [] n_term_Under [t.enc,.i i] [] = some (.ret (.i (t.under i)),[]) := by
 rw [eq_term_Under]
 simp [ir_term_Under,tm_fold',rw_fold',dc_fold']
 repeat' ((first | refine kG_split ?_ ?_ | refine kIf_split ?_ ?_ | refine bB_split ?_ ?_ | refine kO_split ?_ ?_ | refine kCl_split ?_ ?_) <;> intro h <;> (try simp only [decide_eq_true_eq,decide_eq_false_iff_not,Bool.not_eq_true] at h) <;> simp [h,ir_term_Under,tm_fold',rw_fold',dc_fold'])
 all_goals simp_all [Tm.under]
theorem ref03_below_spec (t : Tm) (i : Int) : runV TT HH [] n_ref03_below [t.enc,.i i] [] = some (.ret (.i (t.under i)),[]) := by
 rw [eq_ref03_below]
 simp [ir_ref03_below,tm_fold',rw_fold',dc_fold']
 repeat' ((first | refine kG_split ?_ ?_ | refine kIf_split ?_ ?_ | refine bB_split ?_ ?_ | refine kO_split ?_ ?_ | refine kCl_split ?_ ?_) <;> intro h <;> (try simp only [decide_eq_true_eq,decide_eq_false_iff_not,Bool.not_eq_true] at h) <;> simp [h,ir_ref03_below,tm_fold',rw_fold',dc_fold'])
 all_goals simp_all [Tm.under]
def shape (op hd n len : Int) : Bool :=
 (decide (op = 1) && (decide (len = 0) && decide (hd = 0) && decide (n = 0))) ||
 (decide (op = 2) && (decide (len = 2) && decide (hd = 0) && decide (n = 0))) ||
 (decide (op = 3) && (decide (len = 1) && decide (hd = 0) && decide (n = 0))) ||
 (decide (op = 4) && (decide (1 ≤ hd) && decide (hd ≤ 3) && decide (0 ≤ n) && decide (n ≤ 9999)))
mutual
def Tm.formed : Tm → Int → Bool
 | .mk op hd n args,d => decide (d ≤ 40) && (shape op hd n args.length && Tm.formedL args (d + 1))
def Tm.formedL : List Tm → Int → Bool
 | [],_ => true
 | t :: r,d => t.formed d && Tm.formedL r d
end
theorem formed_eq : ∀ (t : Tm) (d : Int),t.formed d = (decide (d ≤ 40) && (shape t.op t.hd t.n t.args.length && Tm.formedL t.args (d + 1)))
 | .mk op hd n args,d => by rw [Tm.formed]; rfl
theorem formedL_mem {l : List Tm} {d : Int} : Tm.formedL l d = true ↔ ∀ x ∈ l,x.formed d = true := by
 induction l with
 | nil => simp [Tm.formedL]
 | cons a r ih => simp [Tm.formedL,ih]
mutual
def Tm.nodes : Tm → Nat
 | .mk _ _ _ args => 1 + Tm.nodesL args
def Tm.nodesL : List Tm → Nat
 | [] => 0
 | t :: r => t.nodes + Tm.nodesL r
end
theorem nodes_eq : ∀ t : Tm,t.nodes = 1 + Tm.nodesL t.args
 | .mk _ _ _ _ => by rw [Tm.nodes]; rfl
theorem nodesL_mem {l : List Tm} {t : Tm} (h : t ∈ l) : t.nodes ≤ Tm.nodesL l := by
 induction l with
 | nil => cases h
 | cons x r ih =>
  unfold Tm.nodesL
  rcases List.mem_cons.1 h with rfl | h
  ·omega
  ·have := ih h; omega
def Tm.proper (t : Tm) : Bool := decide (t.nodes ≤ 600) && t.formed 1
theorem ml {n : Nat} (h : n ≤ maxLen) : n < 2 ^ 63 := by unfold maxLen at h; omega
theorem Tm.ok.len {t : Tm} (h : t.ok) : t.args.length ≤ maxLen := h.here.2.2.2
theorem ref03_formed_spec : ∀ t : Tm,t.ok → ∀ d : Int,0 ≤ d → d ≤ 41 → runV TT HH [] n_ref03_formed [t.enc,.i d] [] = some (.ret (.b (t.formed d)),[]) :=
 Tm.ind fun t ih hok d h0 h1 => by
  rw [eq_ref03_formed,formed_eq]
  have e3 := ml hok.len
  by_cases hd40 : d ≤ 40
  rotate_left
  ·have g1 : 40 < d := by omega
   simp [ir_ref03_formed,g1,hd40]
  have g1 : ¬ (40 < d) := by omega
  have hlo := LO_list (T := TT) (H := HH) (b := [0]) (A := ir_ref03_formedL0) t.args
   (fun i (_ : Unit) => ([(1,.i d),(2,.ptr 0 0),(5,.i i)],[.var (Enc.cells t)]))
   (fun r i _ => if Tm.formedL r (d + 1) then (.exit 1,[],[.var (Enc.cells t)]) else (.ret,[(4,.b false)],[.var (Enc.cells t)]))
   (fun _ _ => True)
   (fun _ _ => by
    rw [E_EK]
    simp [ir_ref03_formedL0,e3,Tm.formedL])
   (fun i x r _ hx hm hd hi _ => by
    have hc := RR_of (ih x hm (hok.sub x hm) (d + 1) (by omega) (by omega)) (by simp) (by simp)
    have e1 : (i : Int) < t.args.length := by omega
    have hw : IntKind.i64.wrap ((i : Int) + 1) = (i : Int) + 1 := wrap_small _ (by omega) (by omega)
    have hw1 : IntKind.i64.wrap (d + 1) = d + 1 := wrap_small _ (by omega) (by omega)
    rw [E_EK]
    cases h : x.formed (d + 1) <;> simp [ir_ref03_formedL0,e1,e3,hx,tm_fold',hc,hw,hw1,h,Tm.formedL]) 0 () (by omega) trivial
  cases hf : Tm.formedL t.args (d + 1) <;> simp [hf] at hlo
  all_goals simp [ir_ref03_formed,g1,hd40,e3,hlo,tm_fold',rw_fold',dc_fold']
  all_goals repeat' ((first | refine kG_split ?_ ?_ | refine kIf_split ?_ ?_ | refine bB_split ?_ ?_ | refine kO_split ?_ ?_ | refine kCl_split ?_ ?_) <;> intro h <;> (try simp only [decide_eq_true_eq,decide_eq_false_iff_not,Bool.not_eq_true] at h) <;> simp [h,ir_ref03_formed,g1,hd40,e3,hlo,tm_fold',rw_fold',dc_fold'])
  all_goals (simp_all [shape] <;> omega)
mutual
def Tm.rnodes : Tm → Int → Int
 | .mk _ _ _ args,m => min (Tm.rnodesL args m 1) (m + 1)
def Tm.rnodesL : List Tm → Int → Int → Int
 | [],_,n => n
 | t :: r,m,n => if n ≤ m then Tm.rnodesL r m (n + t.rnodes (m - n)) else n
end
theorem rnodes_eq' : ∀ (t : Tm) (m : Int),t.rnodes m = min (Tm.rnodesL t.args m 1) (m + 1)
 | .mk _ _ _ _,_ => by rw [Tm.rnodes]; rfl
mutual
theorem rnodes_eq : ∀ (t : Tm) (m : Int),0 ≤ m → t.rnodes m = min (t.nodes : Int) (m + 1)
 | .mk op hd n args,m,h => by
  unfold Tm.rnodes Tm.nodes
  have := rnodesL_eq args m 1 (by omega) (by omega)
  push_cast
  omega
theorem rnodesL_eq : ∀ (l : List Tm) (m n : Int),0 ≤ n → n ≤ m + 1 → min (Tm.rnodesL l m n) (m + 1) = min (n + Tm.nodesL l : Int) (m + 1) ∧ 0 ≤ Tm.rnodesL l m n ∧ Tm.rnodesL l m n ≤ m + 1
 | [],m,n,h0,h1 => by unfold Tm.rnodesL Tm.nodesL; refine ⟨by simp,h0,h1⟩
 | t :: r,m,n,h0,h1 => by
  unfold Tm.rnodesL Tm.nodesL
  have ht := nodes_eq t
  push_cast
  split
  ·rename_i hn
   have g := rnodes_eq t (m - n) (by omega)
   have := rnodesL_eq r m (n + t.rnodes (m - n)) (by omega) (by omega)
   omega
  ·omega
end
theorem ref03_nodes_spec : ∀ t : Tm,t.ok → ∀ m : Int,0 ≤ m → m ≤ 100000 → runV TT HH [] n_ref03_nodes [t.enc,.i m] [] = some (.ret (.i (t.rnodes m)),[]) :=
 Tm.ind fun t ih hok m h0 h1 => by
  rw [eq_ref03_nodes,rnodes_eq']
  have e3 := ml hok.len
  have hlo := LO_list (T := TT) (H := HH) (b := [0]) (A := ir_ref03_nodesL0) t.args
   (fun i (n : Int) => ([(1,.i m),(2,.ptr 0 0),(5,.i n),(6,.i i)],[.var (Enc.cells t)]))
   (fun r i n => (.exit 0,[(1,.i m),(5,.i (Tm.rnodesL r m n))],[.var (Enc.cells t)]))
   (fun _ n => 1 ≤ n ∧ n ≤ m + 1)
   (fun n _ => by
    rw [E_EK]
    simp [ir_ref03_nodesL0,e3,Tm.rnodesL])
   (fun i x r n hx hm hd hi ⟨q0,q1⟩ => by
    have e1 : (i : Int) < t.args.length := by omega
    by_cases hn : n ≤ m
    ·have hc := RR_of (ih x hm (hok.sub x hm) (m - n) (by omega) (by omega)) (by simp) (by simp)
     have hr := rnodes_eq x (m - n) (by omega)
     have hw : IntKind.i64.wrap ((i : Int) + 1) = (i : Int) + 1 := wrap_small _ (by omega) (by omega)
     have hw1 : IntKind.i64.wrap (m - n) = m - n := wrap_small _ (by omega) (by omega)
     have hw2 : IntKind.i64.wrap (n + x.rnodes (m - n)) = n + x.rnodes (m - n) := wrap_small _ (by omega) (by omega)
     refine .inr ⟨n + x.rnodes (m - n),?_,by omega,by simp [Tm.rnodesL,hn]⟩
     rw [E_EK]
     simp [ir_ref03_nodesL0,e1,e3,hx,tm_fold',hc,hw,hw1,hw2,hn]
    ·refine .inl ⟨?_,by simp⟩
     rw [E_EK]
     simp [ir_ref03_nodesL0,e1,e3,hn,Tm.rnodesL]) 0 1 (by omega) ⟨by omega,by omega⟩
  simp at hlo
  have hw : IntKind.i64.wrap (m + 1) = m + 1 := wrap_small _ (by omega) (by omega)
  simp [ir_ref03_nodes,hlo,hw]
theorem ref03_Proper_spec (t : Tm) (h : t.ok) : runV TT HH [] n_ref03_Proper [t.enc] [] = some (.ret (.b t.proper),[]) := by
 rw [eq_ref03_Proper]
 have h1 := RR_of (ref03_nodes_spec t h 600 (by omega) (by omega)) (by simp) (by simp)
 have h2 := RR_of (ref03_formed_spec t h 1 (by omega) (by omega)) (by simp) (by simp)
 have h3 := rnodes_eq t 600 (by omega)
 have h4 : decide (t.rnodes 600 ≤ 600) = decide (t.nodes ≤ 600) := decide_eq_decide.2 (by omega)
 simp [ir_ref03_Proper,h1,h2,h4,tm_fold',rw_fold',dc_fold']
 repeat' ((first | refine kG_split ?_ ?_ | refine kIf_split ?_ ?_ | refine bB_split ?_ ?_ | refine kO_split ?_ ?_ | refine kCl_split ?_ ?_) <;> intro h <;> (try simp only [decide_eq_true_eq,decide_eq_false_iff_not,Bool.not_eq_true] at h) <;> simp [h,ir_ref03_Proper,h1,h2,h4,tm_fold',rw_fold',dc_fold'])
 all_goals (simp_all [Tm.proper] <;> omega)
end Go.Ev


namespace Go.Ev
def und (op i : Int) : Int := if op = 3 ∨ (op = 2 ∧ i = 1) then 1 else 0
theorem under_und (t : Tm) (i : Int) : t.under i = und t.op i := rfl
theorem und_pos (op i : Int) : 0 ≤ und op i := by unfold und; split <;> omega
theorem und_one (op i : Int) : und op i ≤ 1 := by unfold und; split <;> omega
mutual
def Tm.nds : Tm → Int → List (Tm × Int)
 | .mk op hd n args,b => (.mk op hd n args,b) :: Tm.ndsL op args 0 b
def Tm.ndsL (op : Int) : List Tm → Int → Int → List (Tm × Int)
 | [],_,_ => []
 | t :: r,i,b => t.nds (b + und op i) ++ Tm.ndsL op r (i + 1) b
end
theorem nds_eq : ∀ (t : Tm) (b : Int),t.nds b = (t,b) :: Tm.ndsL t.op t.args 0 b
 | .mk _ _ _ _,_ => by rw [Tm.nds]; rfl
mutual
theorem nds_len : ∀ (t : Tm) (b : Int),(t.nds b).length = t.nodes
 | .mk op hd n args,b => by rw [Tm.nds,Tm.nodes,List.length_cons,ndsL_len args op 0 b,Nat.add_comm]
theorem ndsL_len : ∀ (l : List Tm) (op i b : Int),(Tm.ndsL op l i b).length = Tm.nodesL l
 | [],_,_,_ => rfl
 | t :: r,op,i,b => by rw [Tm.ndsL,Tm.nodesL,List.length_append,nds_len t,ndsL_len r]
end
mutual
theorem nds_formed : ∀ (t : Tm) (b d : Int),t.formed d = true → b < d → ∀ x ∈ t.nds b,shape x.1.op x.1.hd x.1.n x.1.args.length = true ∧ b ≤ x.2 ∧ x.2 - b ≤ 40 - d
 | .mk op hd n args,b,d,hf,hb,x,hx => by
  rw [Tm.formed] at hf
  simp only [Bool.and_eq_true,decide_eq_true_eq] at hf
  rw [Tm.nds] at hx
  rcases List.mem_cons.1 hx with rfl | hx
  ·exact ⟨hf.2.1,by simp,by simp; omega⟩
  ·have := ndsL_formed args op 0 b (d + 1) hf.2.2 (by omega) x hx
   exact ⟨this.1,this.2.1,by omega⟩
theorem ndsL_formed : ∀ (l : List Tm) (op i b d : Int),Tm.formedL l d = true → b + 1 < d → ∀ x ∈ Tm.ndsL op l i b,shape x.1.op x.1.hd x.1.n x.1.args.length = true ∧ b ≤ x.2 ∧ x.2 - b ≤ 40 - d + 1
 | [],op,i,b,d,hf,hb,x,hx => by cases hx
 | t :: r,op,i,b,d,hf,hb,x,hx => by
  rw [Tm.formedL] at hf
  simp only [Bool.and_eq_true] at hf
  have h0 := und_pos op i
  have h1 := und_one op i
  rw [Tm.ndsL] at hx
  rcases List.mem_append.1 hx with hx | hx
  ·have := nds_formed t (b + und op i) d hf.1 (by omega) x hx
   exact ⟨this.1,by omega,by omega⟩
  ·exact ndsL_formed r op (i + 1) b d hf.2 hb x hx
end
theorem formed_nd {t : Tm} {b d : Int} (h : t.formed d = true) (hb : b < d) {x : Tm × Int} (hx : x ∈ t.nds b) : shape x.1.op x.1.hd x.1.n x.1.args.length = true ∧ b ≤ x.2 ∧ x.2 - b ≤ 40 - d := nds_formed t b d h hb x hx
mutual
def Tm.moved : Tm → Int → Int → Tm
 | .mk op hd n args,k,f => .mk op hd (if op = 4 ∧ hd = 1 ∧ f ≤ n then n + k else n) (Tm.movedL op args 0 k f)
def Tm.movedL (op : Int) : List Tm → Int → Int → Int → List Tm
 | [],_,_,_ => []
 | t :: r,i,k,f => t.moved k (f + und op i) :: Tm.movedL op r (i + 1) k f
end
theorem moved_eq : ∀ (t : Tm) (k f : Int),t.moved k f = .mk t.op t.hd (if t.op = 4 ∧ t.hd = 1 ∧ f ≤ t.n then t.n + k else t.n) (Tm.movedL t.op t.args 0 k f)
 | .mk _ _ _ _,_,_ => by rw [Tm.moved]; rfl
theorem movedL_len : ∀ (l : List Tm) (op i k f : Int),(Tm.movedL op l i k f).length = l.length
 | [],_,_,_,_ => rfl
 | _ :: r,op,i,k,f => by rw [Tm.movedL,List.length_cons,List.length_cons,movedL_len r]
mutual
theorem moved_nodes : ∀ (t : Tm) (k f : Int),(t.moved k f).nodes = t.nodes
 | .mk op hd n args,k,f => by rw [Tm.moved,Tm.nodes,Tm.nodes,movedL_nodes args]
theorem movedL_nodes : ∀ (l : List Tm) (op i k f : Int),Tm.nodesL (Tm.movedL op l i k f) = Tm.nodesL l
 | [],_,_,_,_ => rfl
 | t :: r,op,i,k,f => by rw [Tm.movedL,Tm.nodesL,Tm.nodesL,moved_nodes t,movedL_nodes r]
end
def isV (k : Int) (x : Tm × Int) : Bool := decide (x.1.op = 4) && (decide (x.1.hd = 1) && decide (x.1.n = x.2 + k))
mutual
theorem moved_formed : ∀ (t : Tm) (f d : Int),0 ≤ f → t.formed d = true → (t.nds f).all (fun x => !isV 0 x) = true → (t.moved (-1) f).formed d = true
 | .mk op hd n args,f,d,h0,hf,hv => by
  rw [Tm.formed] at hf
  simp only [Bool.and_eq_true,decide_eq_true_eq] at hf
  rw [Tm.nds,List.all_cons] at hv
  simp only [Bool.and_eq_true] at hv
  rw [Tm.moved,Tm.formed,movedL_len,movedL_formed args op 0 f (d + 1) h0 hf.2.2 hv.2]
  simp only [hf.1,decide_true,Bool.true_and,Bool.and_true]
  have h1 := hf.2.1
  have h2 := hv.1
  by_cases hc : op = 4 ∧ hd = 1 ∧ f ≤ n
  ·rw [if_pos hc]
   obtain ⟨rfl,rfl,hc⟩ := hc
   simp [shape,isV] at h1 h2 ⊢
   omega
  ·rw [if_neg hc]; exact h1
theorem movedL_formed : ∀ (l : List Tm) (op i f d : Int),0 ≤ f → Tm.formedL l d = true → (Tm.ndsL op l i f).all (fun x => !isV 0 x) = true → Tm.formedL (Tm.movedL op l i (-1) f) d = true
 | [],_,_,_,_,_,_,_ => rfl
 | t :: r,op,i,f,d,h0,hf,hv => by
  rw [Tm.formedL] at hf
  simp only [Bool.and_eq_true] at hf
  rw [Tm.ndsL,List.all_append] at hv
  simp only [Bool.and_eq_true] at hv
  have hu := und_pos op i
  rw [Tm.movedL,Tm.formedL,moved_formed t _ d (by omega) hf.1 hv.1,movedL_formed r op (i + 1) f d h0 hf.2 hv.2]
  rfl
end
def okN (sig : List Int) (m : Int) (x : Tm × Int) : Bool :=
 !decide (x.1.op = 4) || (decide (x.1.hd = 1) && decide (x.1.n < x.2 + m)) || (decide (x.1.hd = 2) && match sig[x.1.n.toNat]? with | some k => decide (k ≤ x.1.args.length) | none => false)
mutual
theorem moved_okN (sig : List Int) : ∀ (t : Tm) (f m : Int),1 ≤ m → (t.nds f).all (fun x => !isV 0 x) = true → (t.nds f).all (okN sig m) = true → ((t.moved (-1) f).nds f).all (okN sig (m - 1)) = true
 | .mk op hd n args,f,m,hm,hv,ho => by
  rw [Tm.nds,List.all_cons] at hv ho
  simp only [Bool.and_eq_true] at hv ho
  rw [Tm.moved,Tm.nds,List.all_cons,movedL_okN sig args op 0 f m hm hv.2 ho.2,Bool.and_true]
  have h1 := hv.1
  have h2 := ho.1
  by_cases hc : op = 4 ∧ hd = 1
  ·obtain ⟨rfl,rfl⟩ := hc
   by_cases hfn : f ≤ n
   ·simp [okN,isV,hfn] at h1 h2 ⊢
    have h2 := of_decide_eq_true h2; omega
   ·simp [okN,isV,hfn] at h1 h2 ⊢
    omega
  ·rw [if_neg (fun h => hc ⟨h.1,h.2.1⟩)]
   by_cases h4 : op = 4
   ·have h5 : ¬ hd = 1 := fun h => hc ⟨h4,h⟩
    simp [okN,h4,h5,movedL_len] at h2 ⊢
    exact h2
   ·simp [okN,h4]
theorem movedL_okN (sig : List Int) : ∀ (l : List Tm) (op i f m : Int),1 ≤ m → (Tm.ndsL op l i f).all (fun x => !isV 0 x) = true → (Tm.ndsL op l i f).all (okN sig m) = true → (Tm.ndsL op (Tm.movedL op l i (-1) f) i f).all (okN sig (m - 1)) = true
 | [],_,_,_,_,_,_,_ => rfl
 | t :: r,op,i,f,m,hm,hv,ho => by
  rw [Tm.ndsL,List.all_append] at hv ho
  simp only [Bool.and_eq_true] at hv ho
  rw [Tm.movedL,Tm.ndsL,List.all_append,moved_okN sig t _ m hm hv.1 ho.1,movedL_okN sig r op (i + 1) f m hm hv.2 ho.2]
  rfl
end
mutual
theorem nds_add : ∀ (t : Tm) (b k : Int),t.nds (b + k) = (t.nds b).map fun x => (x.1,x.2 + k)
 | .mk op hd n args,b,k => by rw [Tm.nds,Tm.nds,List.map_cons,ndsL_add args op 0 b k]
theorem ndsL_add : ∀ (l : List Tm) (op i b k : Int),Tm.ndsL op l i (b + k) = (Tm.ndsL op l i b).map fun x => (x.1,x.2 + k)
 | [],_,_,_,_ => rfl
 | t :: r,op,i,b,k => by
  rw [Tm.ndsL,Tm.ndsL,List.map_append,← nds_add t,ndsL_add r op (i + 1) b k]
  congr 2; omega
end
theorem okN_add (sig : List Int) (m k : Int) (x : Tm × Int) : okN sig m (x.1,x.2 + k) = okN sig (m + k) x := by
 have : x.2 + k + m = x.2 + (m + k) := by omega
 simp only [okN,this]
def putL : List Int → Int → List Int
 | [],n => [n]
 | a :: r,n => if a < n then a :: putL r n else if a = n then a :: r else n :: a :: r
theorem mem_putL (l : List Int) (n x : Int) : x ∈ putL l n ↔ x ∈ l ∨ x = n := by
 induction l with
 | nil => simp [putL]
 | cons a r ih =>
  unfold putL
  split
  ·simp [ih,or_assoc]
  ·split
   ·subst_vars; simp only [List.mem_cons]; constructor <;> intro h <;> (rcases h with h | h <;> simp_all)
   ·simp only [List.mem_cons]; constructor <;> intro h <;> (rcases h with h | h | h <;> simp_all)
theorem putL_len (l : List Int) (n : Int) : (putL l n).length ≤ l.length + 1 := by
 induction l with
 | nil => simp [putL]
 | cons a r ih =>
  unfold putL
  split
  ·simp; omega
  ·split <;> simp
theorem putL_sorted {l : List Int} (n : Int) (h : l.Pairwise (· < ·)) : (putL l n).Pairwise (· < ·) := by
 induction l with
 | nil => simp [putL]
 | cons a r ih =>
  unfold putL
  obtain ⟨h1,h2⟩ := List.pairwise_cons.1 h
  split
  ·rename_i han
   refine List.pairwise_cons.2 ⟨fun x hx => ?_,ih h2⟩
   rcases (mem_putL r n x).1 hx with h3 | rfl
   ·exact h1 x h3
   ·exact han
  ·split
   ·exact h
   ·refine List.pairwise_cons.2 ⟨fun x hx => ?_,h⟩
    rcases List.mem_cons.1 hx with rfl | h3
    ·omega
    ·have := h1 x h3; omega
theorem last_lt {l : List Int} (h : l.Pairwise (· < ·)) (hl : l ≠ []) (n : Int) : l.getLast hl < n ↔ ∀ x ∈ l,x < n := by
 induction l with
 | nil => exact absurd rfl hl
 | cons a r ih =>
  obtain ⟨h1,h2⟩ := List.pairwise_cons.1 h
  by_cases hr : r = []
  ·subst hr; simp
  ·rw [List.getLast_cons hr,ih h2 hr]
   refine ⟨fun g x hx => ?_,fun g x hx => g x (by simp [hx])⟩
   rcases List.mem_cons.1 hx with rfl | hx
   ·have h3 := List.getLast_mem hr
    have := h1 _ h3
    have := g _ h3
    omega
   ·exact g x hx
def hval (head : Int) (x : Tm × Int) : Option Int :=
 if x.1.op = 4 ∧ x.1.hd = head then (if head ≠ 1 then some x.1.n else if x.2 ≤ x.1.n then some (x.1.n - x.2) else none) else none
def hstep (head : Int) (l : List Int) (x : Tm × Int) : List Int := match hval head x with
 | some n => putL l n
 | none => l
def heads (head : Int) (ns : List (Tm × Int)) (l : List Int) : List Int := ns.foldl (hstep head) l
theorem heads_nil (head : Int) (l : List Int) : heads head [] l = l := rfl
theorem heads_app (head : Int) (a b : List (Tm × Int)) (l : List Int) : heads head (a ++ b) l = heads head b (heads head a l) := List.foldl_append ..
theorem heads_cons (head : Int) (a : Tm × Int) (b : List (Tm × Int)) (l : List Int) : heads head (a :: b) l = heads head b (hstep head l a) := rfl
theorem heads_len (head : Int) (ns : List (Tm × Int)) : ∀ l,(heads head ns l).length ≤ l.length + ns.length := by
 induction ns with
 | nil => intro l; simp [heads]
 | cons a r ih =>
  intro l
  rw [heads_cons]
  have h1 := ih (hstep head l a)
  have h2 : (hstep head l a).length ≤ l.length + 1 := by
   unfold hstep
   split
   ·exact putL_len ..
   ·omega
  simp; omega
theorem heads_sorted (head : Int) (ns : List (Tm × Int)) : ∀ l,l.Pairwise (· < ·) → (heads head ns l).Pairwise (· < ·) := by
 induction ns with
 | nil => intro l h; exact h
 | cons a r ih =>
  intro l h
  rw [heads_cons]
  refine ih _ ?_
  unfold hstep
  split
  ·exact putL_sorted _ h
  ·exact h
theorem mem_heads (head : Int) (ns : List (Tm × Int)) : ∀ l x,x ∈ heads head ns l ↔ x ∈ l ∨ ∃ y ∈ ns,hval head y = some x := by
 induction ns with
 | nil => intro l x; simp [heads]
 | cons a r ih =>
  intro l x
  rw [heads_cons,ih]
  unfold hstep
  cases h : hval head a with
  | none => simp [h]
  | some n =>
   simp only [mem_putL,List.mem_cons,exists_eq_or_imp,h,Option.some.injEq]
   constructor
   ·rintro ((h1 | rfl) | h1)
    ·exact .inl h1
    ·exact .inr (.inl rfl)
    ·exact .inr (.inr h1)
   ·rintro (h1 | rfl | h1)
    ·exact .inl (.inl h1)
    ·exact .inl (.inr rfl)
    ·exact .inr h1
def lastLt (l : List Int) (n : Int) : Bool := match l.getLast? with
 | some x => decide (x < n)
 | none => true
theorem lastLt_heads (head : Int) (ns : List (Tm × Int)) (n : Int) : lastLt (heads head ns []) n = ns.all fun x => match hval head x with | some k => decide (k < n) | none => true := by
 have hs := heads_sorted head ns [] List.Pairwise.nil
 have hm := mem_heads head ns []
 have key : lastLt (heads head ns []) n = true ↔ ∀ x ∈ heads head ns [],x < n := by
  unfold lastLt
  by_cases hl : heads head ns [] = []
  ·simp [hl]
  ·rw [List.getLast?_eq_some_getLast hl]
   simp only [decide_eq_true_eq]
   exact last_lt hs hl n
 rw [Bool.eq_iff_iff,key,List.all_eq_true]
 constructor
 ·intro h x hx
  cases hv : hval head x with
  | none => rfl
  | some k => exact decide_eq_true (h k ((hm k).2 (.inr ⟨x,hx,hv⟩)))
 ·intro h x hx
  rcases (hm x).1 hx with h1 | ⟨y,hy,hv⟩
  ·cases h1
  ·have := h y hy
   rw [hv] at this
   exact of_decide_eq_true this
theorem heads_empty (head : Int) (ns : List (Tm × Int)) : decide (heads head ns [] = []) = ns.all fun x => (hval head x).isNone := by
 have hm := mem_heads head ns []
 rw [Bool.eq_iff_iff,decide_eq_true_eq,List.all_eq_true,List.eq_nil_iff_forall_not_mem]
 constructor
 ·intro h x hx
  cases hv : hval head x with
  | none => rfl
  | some k => exact absurd ((hm k).2 (.inr ⟨x,hx,hv⟩)) (h k)
 ·intro h x hx
  rcases (hm x).1 hx with h1 | ⟨y,hy,hv⟩
  ·cases h1
  ·have := h y hy
   rw [hv] at this
   cases this
def Tm.doms : Nat → Tm → List Tm
 | 0,_ => []
 | k + 1,t => if t.op = 2 then (match t.args with | [a,b] => a :: Tm.doms k b | _ => []) else []
def Tm.core : Nat → Tm → Tm
 | 0,t => t
 | k + 1,t => if t.op = 2 then (match t.args with | [_,b] => Tm.core k b | _ => t) else t
theorem formed_pi {t : Tm} {d : Int} (h : t.formed d = true) (h2 : t.op = 2) : ∃ a b,t.args = [a,b] ∧ a.formed (d + 1) = true ∧ b.formed (d + 1) = true := by
 rw [formed_eq] at h
 simp only [Bool.and_eq_true,decide_eq_true_eq] at h
 obtain ⟨_,h3,h4⟩ := h
 simp [shape,h2] at h3
 match hl : t.args,h3 with
 | [a,b],_ =>
  rw [hl] at h4
  simp only [Tm.formedL,Bool.and_eq_true] at h4
  exact ⟨a,b,rfl,h4.1,h4.2.1⟩
 | [],h => simp [hl] at h
 | [_],h => simp [hl] at h
 | _ :: _ :: _ :: _,h => simp [hl] at h; omega
theorem doms_step {t a b : Tm} (h : t.op = 2) (ha : t.args = [a,b]) (k : Nat) : Tm.doms (k + 1) t = a :: Tm.doms k b := by simp [Tm.doms,h,ha]
theorem core_step {t a b : Tm} (h : t.op = 2) (ha : t.args = [a,b]) (k : Nat) : Tm.core (k + 1) t = Tm.core k b := by simp [Tm.core,h,ha]
theorem doms_end {t : Tm} (h : t.op ≠ 2) (k : Nat) : Tm.doms k t = [] := by cases k <;> simp [Tm.doms,h]
theorem core_end {t : Tm} (h : t.op ≠ 2) (k : Nat) : Tm.core k t = t := by cases k <;> simp [Tm.core,h]
theorem doms_len (k : Nat) : ∀ t : Tm,(Tm.doms k t).length ≤ k := by
 induction k with
 | zero => intro t; simp [Tm.doms]
 | succ k ih =>
  intro t
  unfold Tm.doms
  split
  ·split
   ·rename_i a b _
    have := ih b; simp; omega
   ·simp
  ·simp
end Go.Ev


namespace Go.Ev
def sType : ByteArray := ⟨#[116,121,112,101]⟩
def famAt (sig : List Dc) (n : Int) : Bool := match sig[n.toNat]? with
 | some d => decide ((Tm.core 40 d.class_).op = 1)
 | none => false
def clN (m : Int) (x : Tm × Int) : Bool := !decide (x.1.op = 4) || (!decide (x.1.hd = 3) && (!decide (x.1.hd = 1) || decide (x.1.n < x.2)) && (!decide (x.1.hd = 2) || decide (x.1.n < m)))
def clT (t : Tm) (m : Int) : Bool := (t.nds 0).all (clN m)
def tgt (before : List Dc) (t : Tm) : Bool := decide (t.op = 1) || (decide (t.op = 4) && (decide (t.hd = 2) && famAt before t.n))
def okD (before : List Dc) (d : Dc) : Bool :=
 d.class_.proper && isCon d.name && decide (0 ≤ d.imp) && decide (d.imp ≤ (Tm.doms 40 d.class_).length) && clT d.class_ before.length && tgt before (Tm.core 40 d.class_)
def sgF (before : List Dc) : List Dc → Bool
 | [] => true
 | d :: r => okD before d && !(before.any fun x => decide (x.name = d.name)) && sgF (before ++ [d]) r
def sigOK (sig : List Dc) : Bool := decide (sig.length ≤ 100) && sgF [] sig
theorem clT_heads (t : Tm) (m : Int) : clT t m = (decide (heads 1 (t.nds 0) [] = []) && decide (heads 3 (t.nds 0) [] = []) && lastLt (heads 2 (t.nds 0) []) m) := by
 rw [heads_empty,heads_empty,lastLt_heads,clT,Bool.eq_iff_iff]
 simp only [Bool.and_eq_true,List.all_eq_true]
 constructor
 ·intro h
  refine ⟨⟨fun x hx => ?_,fun x hx => ?_⟩,fun x hx => ?_⟩ <;>
  ·have := h x hx
   simp only [clN,hval] at this ⊢
   repeat' split <;> simp_all
   all_goals omega
 ·rintro ⟨⟨h1,h2⟩,h3⟩ x hx
  have h1 := h1 x hx
  have h2 := h2 x hx
  have h3 := h3 x hx
  simp only [clN,hval] at h1 h2 h3 ⊢
  by_cases a : x.1.op = 4 <;> by_cases b : x.1.hd = 1 <;> by_cases c : x.1.hd = 2 <;> by_cases d : x.1.hd = 3 <;> simp [a,b,c,d] at h1 h2 h3 ⊢ <;> omega
def pNm (k : Nat) (sig : List Dc) (s : ByteArray) : ByteArray := match k with
 | 0 => s
 | k + 1 => if sig.any fun x => decide (x.name = s) then pNm k sig (s ++ ⟨#[39]⟩) else s
def impOf (sig : List Dc) (t : Tm) : Int := if t.hd = 2 then (match sig[t.n.toNat]? with | some d => d.imp | none => 0) else 0
def hName (sig : List Dc) (nm : Int → ByteArray) (t : Tm) (m : Int) : ByteArray := if t.hd = 1 then nm (m - 1 - t.n) else match sig[t.n.toNat]? with | some d => d.name | none => ByteArray.empty
def occ (t : Tm) (k : Int) : Bool := (t.nds 0).any (isV k)
def rawF (sig : List Dc) (nm : Int → ByteArray) : Nat → Tm → Int → Rw
 | 0,_,_ => .mk 0 ByteArray.empty []
 | k + 1,t,m =>
  if t.op = 1 then .mk 1 ByteArray.empty []
  else if t.op = 2 then match t.args with
   | [a,b] => if occ b 0 then .mk 5 (nm m) [rawF sig nm k a m,rawF sig nm k b (m + 1)] else .mk 6 ByteArray.empty [rawF sig nm k a m,rawF sig nm k (b.moved (-1) 0) m]
   | _ => .mk 0 ByteArray.empty []
  else if t.op = 3 then match t.args with
   | [a] => .mk 7 (nm m) [.mk 3 ByteArray.empty [],rawF sig nm k a (m + 1)]
   | _ => .mk 0 ByteArray.empty []
  else (t.args.drop (impOf sig t).toNat).foldl (fun f x => .mk 4 ByteArray.empty [f,rawF sig nm k x m]) (.mk 2 (hName sig nm t m) [])
mutual
def Rw.nodes : Rw → Nat
 | .mk _ _ args => 1 + Rw.nodesL args
def Rw.nodesL : List Rw → Nat
 | [] => 0
 | t :: r => t.nodes + Rw.nodesL r
end
theorem rwnodes_eq : ∀ t : Rw,t.nodes = 1 + Rw.nodesL t.args
 | .mk _ _ _ => by rw [Rw.nodes]; rfl
def rshape (op : Int) (name : ByteArray) (len : Int) : Bool :=
 ((decide (op = 1) || decide (op = 3)) && (decide (len = 0) && decide (name = ByteArray.empty))) ||
 (decide (op = 2) && (decide (len = 0) && isNm name)) ||
 ((decide (op = 4) || decide (op = 6)) && (decide (len = 2) && decide (name = ByteArray.empty))) ||
 ((decide (op = 5) || decide (op = 7)) && (decide (len = 2) && isNm name))
mutual
def Rw.formed : Rw → Int → Bool
 | .mk op name args,d => decide (d ≤ 40) && (rshape op name args.length && Rw.formedL args (d + 1))
def Rw.formedL : List Rw → Int → Bool
 | [],_ => true
 | t :: r,d => t.formed d && Rw.formedL r d
end
theorem rwformed_eq : ∀ (t : Rw) (d : Int),t.formed d = (decide (d ≤ 40) && (rshape t.op t.name t.args.length && Rw.formedL t.args (d + 1)))
 | .mk op name args,d => by rw [Rw.formed]; rfl
def Rw.well (t : Rw) : Bool := decide (t.nodes ≤ 400) && t.formed 1
def sOf (l : List UInt8) : ByteArray := ⟨l.toArray⟩
def par (b : Bool) (s : ByteArray) : ByteArray := if b then sOf [40] ++ s ++ sOf [41] else s
def wide (op : Int) : Bool := decide (op = 6) || decide (op = 5) || decide (op = 7)
def Rw.text : Rw → ByteArray
 | .mk op name args =>
  if op = 1 then sType
  else if op = 2 then name
  else if op = 3 then sOf [95]
  else match args with
   | [a,b] =>
    if op = 4 then par (wide a.op) a.text ++ sOf [32] ++ par (wide b.op || decide (b.op = 4)) b.text
    else if op = 6 then par (wide a.op) a.text ++ sOf [32,45,62,32] ++ b.text
    else sOf [if op = 5 then 123 else 91] ++ name ++ (if a.op = 3 then ByteArray.empty else sOf [58] ++ a.text) ++ sOf [if op = 5 then 125 else 93] ++ sOf [32] ++ b.text
   | _ => ByteArray.empty
end Go.Ev


namespace Go.Ev
theorem core_ne2 : ∀ (k : Nat) (t : Tm) (d : Int),t.formed d = true → 41 - d ≤ k → (Tm.core k t).op ≠ 2 := by
 intro k
 induction k with
 | zero =>
  intro t d h hk
  rw [formed_eq] at h
  simp only [Bool.and_eq_true,decide_eq_true_eq] at h
  omega
 | succ k ih =>
  intro t d h hk
  by_cases h2 : t.op = 2
  ·obtain ⟨a,b,hl,_,hb⟩ := formed_pi h h2
   rw [core_step h2 hl]
   exact ih b (d + 1) hb (by push_cast at hk; omega)
  ·rw [core_end h2]; exact h2
theorem formed_shape {t : Tm} {d : Int} (h : t.formed d = true) : shape t.op t.hd t.n t.args.length = true := by
 rw [formed_eq] at h
 simp only [Bool.and_eq_true] at h
 exact h.2.1
theorem shape4 {op hd n l : Int} (h : shape op hd n l = true) (h4 : op = 4) : 1 ≤ hd ∧ hd ≤ 3 ∧ 0 ≤ n ∧ n ≤ 9999 := by
 subst h4; simpa [shape,and_assoc] using h
theorem shape_op {op hd n l : Int} (h : shape op hd n l = true) : op = 1 ∨ op = 2 ∨ op = 3 ∨ op = 4 := by
 simp only [shape,Bool.or_eq_true,Bool.and_eq_true,decide_eq_true_eq] at h
 omega
theorem proper_formed {t : Tm} (h : t.proper = true) : t.formed 1 = true := by
 simp only [Tm.proper,Bool.and_eq_true] at h; exact h.2
theorem proper_nodes {t : Tm} (h : t.proper = true) : t.nodes ≤ 600 := by
 simp only [Tm.proper,Bool.and_eq_true,decide_eq_true_eq] at h; exact h.1
theorem core_mem : ∀ (k : Nat) (t : Tm) (b : Int),∃ c,(Tm.core k t,c) ∈ t.nds b := by
 intro k
 induction k with
 | zero => intro t b; exact ⟨b,by rw [nds_eq]; exact List.mem_cons_self ..⟩
 | succ k ih =>
  intro t b
  unfold Tm.core
  split
  ·split
   ·rename_i x y hl
    obtain ⟨c,hc⟩ := ih y (b + und t.op (0 + 1))
    refine ⟨c,?_⟩
    rw [nds_eq,hl,Tm.ndsL,Tm.ndsL]
    simp only [List.mem_cons,List.mem_append]
    exact .inr (.inr (.inl hc))
   ·exact ⟨b,by rw [nds_eq]; exact List.mem_cons_self ..⟩
  ·exact ⟨b,by rw [nds_eq]; exact List.mem_cons_self ..⟩
theorem nodes_pos (t : Tm) : 1 ≤ t.nodes := by rw [nodes_eq]; omega
theorem nodes_sub {t x : Tm} (h : x ∈ t.args) : x.nodes + 1 ≤ t.nodes := by
 have h1 := nodes_eq t; have h2 := nodesL_mem h; omega
theorem formed_sub {t x : Tm} {d : Int} (h : t.formed d = true) (hx : x ∈ t.args) : x.formed (d + 1) = true := by
 rw [formed_eq] at h
 simp only [Bool.and_eq_true] at h
 exact formedL_mem.1 h.2.2 x hx
theorem formed_le {t : Tm} {d : Int} (h : t.formed d = true) : d ≤ 40 := by
 rw [formed_eq] at h
 simp only [Bool.and_eq_true,decide_eq_true_eq] at h
 exact h.1
mutual
theorem formed_mono : ∀ (t : Tm) (d e : Int),e ≤ d → t.formed d = true → t.formed e = true
 | .mk op hd n args,d,e,h,hf => by
  rw [Tm.formed] at hf ⊢
  simp only [Bool.and_eq_true,decide_eq_true_eq] at hf ⊢
  exact ⟨by omega,hf.2.1,formedL_mono args (d + 1) (e + 1) (by omega) hf.2.2⟩
theorem formedL_mono : ∀ (l : List Tm) (d e : Int),e ≤ d → Tm.formedL l d = true → Tm.formedL l e = true
 | [],_,_,_,_ => rfl
 | t :: r,d,e,h,hf => by
  rw [Tm.formedL] at hf ⊢
  simp only [Bool.and_eq_true] at hf ⊢
  exact ⟨formed_mono t d e h hf.1,formedL_mono r d e h hf.2⟩
end
theorem sgF_mem : ∀ (l b : List Dc),sgF b l = true → ∀ d ∈ l,d.class_.proper = true ∧ isCon d.name = true ∧ 0 ≤ d.imp := by
 intro l
 induction l with
 | nil => intro b h d hd; cases hd
 | cons x r ih =>
  intro b h d hd
  simp only [sgF,Bool.and_eq_true] at h
  rcases List.mem_cons.1 hd with rfl | hd
  ·have := h.1.1
   simp only [okD,Bool.and_eq_true,decide_eq_true_eq] at this
   exact ⟨this.1.1.1.1.1,this.1.1.1.1.2,this.1.1.1.2⟩
  ·exact ih _ h.2 d hd
theorem sigOK_mem {l : List Dc} (h : sigOK l = true) {d : Dc} (hd : d ∈ l) : d.class_.proper = true ∧ isCon d.name = true ∧ 0 ≤ d.imp := by
 simp only [sigOK,Bool.and_eq_true] at h
 exact sgF_mem l [] h.2 d hd
theorem nmB_size {f : Int → Bool} {s : ByteArray} (h : nmB f (bts s) = true) : s.size ≤ 16 := by
 simp only [nmB,Bool.and_eq_true,decide_eq_true_eq,bts_length] at h
 exact h.1.1.2
theorem isCon_size {s : ByteArray} (h : isCon s = true) : s.size ≤ 16 := by
 simp only [isCon,Bool.and_eq_true] at h
 exact nmB_size h.1
theorem isNm_size {s : ByteArray} (h : isNm s = true) : s.size ≤ 16 := by
 simp only [isNm,Bool.and_eq_true] at h
 exact nmB_size h.1
theorem no_name {l : List Dc} (h : sigOK l = true) {s : ByteArray} (hs : 17 ≤ s.size) : (l.any fun x => decide (x.name = s)) = false := by
 rw [List.any_eq_false]
 intro x hx hn
 have := isCon_size (sigOK_mem h hx).2.1
 rw [of_decide_eq_true hn] at this
 omega
theorem size_app (a b : ByteArray) : (a ++ b).size = a.size + b.size := ByteArray.size_append
theorem rshape_name {op : Int} {name : ByteArray} {len : Int} (h : rshape op name len = true) : name.size ≤ 16 := by
 simp only [rshape,Bool.or_eq_true,Bool.and_eq_true,decide_eq_true_eq] at h
 rcases h with ((h | h) | h) | h
 ·rw [h.2.2]; simp
 ·exact isNm_size h.2.2
 ·rw [h.2.2]; simp
 ·exact isNm_size h.2.2
theorem sOf_size (l : List UInt8) : (sOf l).size = l.length := by simp [sOf,ByteArray.size]
theorem par_size (b : Bool) (s : ByteArray) : (par b s).size ≤ s.size + 2 := by
 unfold par
 split
 ·simp only [size_app,sOf_size,List.length_cons,List.length_nil]; omega
 ·omega
theorem text_eq : ∀ t : Rw,t.text = (if t.op = 1 then sType
  else if t.op = 2 then t.name
  else if t.op = 3 then sOf [95]
  else match t.args with
   | [a,b] =>
    if t.op = 4 then par (wide a.op) a.text ++ sOf [32] ++ par (wide b.op || decide (b.op = 4)) b.text
    else if t.op = 6 then par (wide a.op) a.text ++ sOf [32,45,62,32] ++ b.text
    else sOf [if t.op = 5 then 123 else 91] ++ t.name ++ (if a.op = 3 then ByteArray.empty else sOf [58] ++ a.text) ++ sOf [if t.op = 5 then 125 else 93] ++ sOf [32] ++ b.text
   | _ => ByteArray.empty)
 | .mk op name [] => by rw [Rw.text]; rfl; all_goals simp
 | .mk op name [a] => by rw [Rw.text]; rfl; all_goals simp
 | .mk op name [a,b] => by rw [Rw.text]; rfl
 | .mk op name (a :: b :: c :: r) => by rw [Rw.text]; rfl; all_goals simp
theorem text_size : ∀ (t : Rw) (d : Int),t.formed d = true → t.text.size ≤ 32 * t.nodes :=
 Rw.ind fun t ih d h => by
  rw [rwformed_eq] at h
  simp only [Bool.and_eq_true,decide_eq_true_eq] at h
  obtain ⟨_,h1,h2⟩ := h
  have hn := rshape_name h1
  rw [text_eq,rwnodes_eq]
  split
  ·simp [sType,ByteArray.size]; omega
  split
  ·omega
  split
  ·simp only [sOf_size,List.length_cons,List.length_nil]; omega
  split
  ·rename_i a b hl
   rw [hl] at h2 ih
   simp only [Rw.formedL,Bool.and_eq_true] at h2
   have ha := ih a (by simp) (d + 1) h2.1
   have hb := ih b (by simp) (d + 1) h2.2.1
   have p1 := par_size (wide a.op) a.text
   have p2 := par_size (wide b.op || decide (b.op = 4)) b.text
   simp only [hl,Rw.nodesL]
   split
   ·simp only [size_app,sOf_size,List.length_cons,List.length_nil]; omega
   split
   ·simp only [size_app,sOf_size,List.length_cons,List.length_nil]; omega
   ·simp only [size_app,sOf_size,List.length_cons,List.length_nil]
    have : (if a.op = 3 then ByteArray.empty else sOf [58] ++ a.text).size ≤ 1 + a.text.size := by
     split
     ·simp
     ·simp only [size_app,sOf_size,List.length_cons,List.length_nil]; omega
    omega
  ·simp
end Go.Ev


namespace Go.Ev
theorem app_ge {σ : Sto} {p : Nat} (l : Sto) (h : σ.length ≤ p) : (σ ++ l)[p]? = l[p - σ.length]? := List.getElem?_append_right h
theorem set_ge {σ : Sto} {p : Nat} (l : Sto) (x : Ob) (h : σ.length ≤ p) : (σ ++ l).set p x = σ ++ l.set (p - σ.length) x := List.set_append_right _ _ h
theorem set_at {σ : Sto} {p : Nat} (x : Ob) (h : p < σ.length) : (σ.set p x)[p]? = some x := List.getElem?_set_self h
theorem take_app {σ : Sto} (l : Sto) : (σ ++ l).take σ.length = σ := List.take_left
theorem take_app1 {σ : Sto} (l : Sto) (k : Nat) : (σ ++ l).take (σ.length + k) = σ ++ l.take k := by rw [List.take_append,List.take_of_length_le (by omega)]; congr 2; omega
theorem take_set {σ : Sto} {p : Nat} (x : Ob) (l : Sto) : (σ.set p x ++ l).take σ.length = σ.set p x := List.take_left' (by simp)
theorem take_set1 {σ : Sto} {p : Nat} (x : Ob) (l : Sto) (k : Nat) : (σ.set p x ++ l).take (σ.length + k) = σ.set p x ++ l.take k := by rw [List.take_append,List.take_of_length_le (by simp)]; congr 2; simp
mutual
def Tm.pr : Tm → Int → Int → Bool × Int
 | .mk op hd n args,d,c => if 600 < c + 1 ∨ 40 < d then (false,c + 1) else Tm.prL args (d + 1) (c + 1) (shape op hd n args.length)
def Tm.prL : List Tm → Int → Int → Bool → Bool × Int
 | [],_,c,ok => (ok,c)
 | t :: r,d,c,ok => if ok then Tm.prL r d (t.pr d c).2 (t.pr d c).1 else (false,c)
end
theorem pr_eq' : ∀ (t : Tm) (d c : Int),t.pr d c = if 600 < c + 1 ∨ 40 < d then (false,c + 1) else Tm.prL t.args (d + 1) (c + 1) (shape t.op t.hd t.n t.args.length)
 | .mk _ _ _ _,_,_ => by rw [Tm.pr]; rfl
theorem prL_false (l : List Tm) (d c : Int) : Tm.prL l d c false = (false,c) := by cases l <;> simp [Tm.prL]
mutual
theorem pr_eq : ∀ (t : Tm) (d c : Int),0 ≤ c → (t.pr d c).1 = (decide (c + t.nodes ≤ 600) && t.formed d) ∧ ((t.pr d c).1 = true → (t.pr d c).2 = c + t.nodes) ∧ c ≤ (t.pr d c).2 ∧ (t.pr d c).2 ≤ c + t.nodes
 | .mk op hd n args,d,c,h0 => by
  unfold Tm.pr Tm.formed Tm.nodes
  push_cast
  split
  ·rename_i h
   refine ⟨?_,by simp,by simp; omega,by simp; omega⟩
   rcases h with h | h
   ·have : ¬ (c + (1 + (Tm.nodesL args : Int)) ≤ 600) := by omega
    simp [this]
   ·have : ¬ (d ≤ 40) := by omega
    simp [this]
  ·rename_i h
   have h40 : d ≤ 40 := by omega
   obtain ⟨h1,h2,h3,h4⟩ := prL_eq args (d + 1) (c + 1) (shape op hd n args.length) (by omega) (by omega)
   refine ⟨?_,fun hh => by have := h2 hh; omega,by omega,by omega⟩
   rw [h1]
   have e : (c + 1 + (Tm.nodesL args : Int) ≤ 600) = (c + (1 + (Tm.nodesL args : Int)) ≤ 600) := by rw [Int.add_assoc]
   simp only [e,h40,decide_true,Bool.true_and]
   cases shape op hd n args.length <;> simp
theorem prL_eq : ∀ (l : List Tm) (d c : Int) (ok : Bool),0 ≤ c → c ≤ 600 → (Tm.prL l d c ok).1 = (ok && (decide (c + Tm.nodesL l ≤ 600) && Tm.formedL l d)) ∧ ((Tm.prL l d c ok).1 = true → (Tm.prL l d c ok).2 = c + Tm.nodesL l) ∧ c ≤ (Tm.prL l d c ok).2 ∧ (Tm.prL l d c ok).2 ≤ c + Tm.nodesL l
 | [],d,c,ok,h0,h1 => by
  unfold Tm.prL Tm.nodesL Tm.formedL
  simp [h1]
 | t :: r,d,c,ok,h0,h1 => by
  unfold Tm.prL Tm.nodesL Tm.formedL
  push_cast
  cases ok with
  | false => simp; omega
  | true =>
   simp only [if_true,Bool.true_and]
   obtain ⟨g1,g2,g3,g4⟩ := pr_eq t d c h0
   cases hp : (t.pr d c).1 with
   | false =>
    rw [prL_false]
    rw [hp] at g1
    refine ⟨?_,by simp,by simp; omega,by simp; omega⟩
    by_cases hn : c + t.nodes ≤ 600
    ·simp [hn] at g1
     simp [g1]
    ·have : ¬ (c + ((t.nodes : Int) + (Tm.nodesL r : Int)) ≤ 600) := by omega
     simp [this]
   | true =>
    rw [hp] at g1
    have g2 := g2 hp
    have g1' := g1.symm
    simp only [Bool.and_eq_true,decide_eq_true_eq] at g1'
    rw [g2]
    obtain ⟨k1,k2,k3,k4⟩ := prL_eq r d (c + t.nodes) true (by omega) (by omega)
    refine ⟨?_,fun hh => by have := k2 hh; omega,by omega,by omega⟩
    rw [k1,g1'.2,Int.add_assoc]
    simp
end
theorem pr_proper (t : Tm) : (t.pr 1 0).1 = t.proper := by
 rw [(pr_eq t 1 0 (by omega)).1]
 unfold Tm.proper
 rw [show decide ((0 : Int) + (t.nodes : Int) ≤ 600) = decide (t.nodes ≤ 600) from decide_eq_decide.2 (by omega)]
set_option maxHeartbeats 1000000 in
theorem term_proper_spec : ∀ t : Tm,t.ok → ∀ (p : Nat) (bars : List Nat) (σ : Sto) (d c : Int),0 ≤ d → d ≤ 41 → 0 ≤ c → c ≤ 600 → σ[p]? = some (.var [.i c]) → runV TT HH bars n_term_proper [t.enc,.i d,.ptr p 0] σ = some (.ret (.b (t.pr d c).1),σ.set p (.var [.i (t.pr d c).2])) :=
 Tm.ind fun t ih hok p bars σ d c h0 h1 h2 h3 hp => by
  rw [eq_term_proper,pr_eq']
  have e3 := ml hok.len
  have hpl : p < σ.length := lt_of_get hp
  have hpl1 : p < σ.length + 1 := by omega
  have hw : IntKind.i64.wrap (c + 1) = c + 1 := wrap_small _ (by omega) (by omega)
  by_cases g : 600 < c + 1 ∨ 40 < d
  ·rw [if_pos g]
   by_cases g1 : 600 < c + 1
   ·simp [ir_term_proper,g1,hw,hp,hpl,-getElem?_pos,List.getElem?_cons_zero,List.getElem?_cons_succ,List.getElem?_nil,app_old,app_ge,set_old,set_ge,set_at,take_app,take_app1,take_set,take_set1,tm_fold']
   ·have g2 : 40 < d := by omega
    simp [ir_term_proper,g1,g2,hw,hp,hpl,-getElem?_pos,List.getElem?_cons_zero,List.getElem?_cons_succ,List.getElem?_nil,app_old,app_ge,set_old,set_ge,set_at,take_app,take_app1,take_set,take_set1,tm_fold']
  rw [if_neg g]
  have g1 : ¬ 600 < c + 1 := by omega
  have g2 : ¬ 40 < d := by omega
  have hlo := fun ok (o1 o2 o3 : Int) => LO_list (T := TT) (H := HH) (b := σ.length :: bars) (A := ir_term_properL0) t.args
   (fun i (s : Int × Bool) => ([(1,.i d),(2,.ptr p 0),(3,.ptr σ.length 0),(7,.i t.args.length),(8,.b s.2),(9,.i i)],σ.set p (.var [.i s.1]) ++ [.var [.i o1,.i o2,.i o3,.sl false (encL t.args)]]))
   (fun r i s => (.exit 1,[(8,.b (Tm.prL r (d + 1) s.1 s.2).1)],σ.set p (.var [.i (Tm.prL r (d + 1) s.1 s.2).2]) ++ [.var [.i o1,.i o2,.i o3,.sl false (encL t.args)]]))
   (fun _ s => 0 ≤ s.1 ∧ (s.2 = true → s.1 ≤ 600))
   (fun s _ => by
    rw [E_EK]
    simp [ir_term_properL0,e3,Tm.prL,hpl,-getElem?_pos,List.getElem?_cons_zero,List.getElem?_cons_succ,List.getElem?_nil,app_old,app_ge,set_old,set_ge,set_at,take_app,take_app1,take_set,take_set1])
   (fun i x r s hx hm hd hi ⟨q0,q1⟩ => by
    obtain ⟨c,ok⟩ := s
    have e1 : (i : Int) < t.args.length := by omega
    have hw : IntKind.i64.wrap ((i : Int) + 1) = (i : Int) + 1 := wrap_small _ (by omega) (by omega)
    have hw1 : IntKind.i64.wrap (d + 1) = d + 1 := wrap_small _ (by omega) (by omega)
    cases ok with
    | false =>
     refine .inl ⟨?_,by simp⟩
     rw [E_EK]
     simp [ir_term_properL0,e1,e3,Tm.prL,hpl,-getElem?_pos,List.getElem?_cons_zero,List.getElem?_cons_succ,List.getElem?_nil,app_old,app_ge,set_old,set_ge,set_at,take_app,take_app1,take_set,take_set1]
    | true =>
     have q1 : c ≤ 600 := q1 rfl
     obtain ⟨g1,g2,g3,g4⟩ := pr_eq x (d + 1) c q0
     refine .inr ⟨((x.pr (d + 1) c).2,(x.pr (d + 1) c).1),?_,⟨by simp; omega,fun h => ?_⟩,by simp [Tm.prL]⟩
     ·have hc : ∀ bars,RR TT HH bars n_term_proper [x.enc,.i (d + 1),.ptr p 0] (σ.set p (.var [.i c]) ++ [.var [.i o1,.i o2,.i o3,.sl false (encL t.args)]]) = some (.ret (.b (x.pr (d + 1) c).1),σ.set p (.var [.i (x.pr (d + 1) c).2]) ++ [.var [.i o1,.i o2,.i o3,.sl false (encL t.args)]]) := by
       intro bars
       rw [RR_open (by simp) (by simp),ih x hm (hok.sub x hm) p bars _ (d + 1) c (by omega) (by omega) q0 q1 (by simp [hpl,-getElem?_pos,List.getElem?_cons_zero,List.getElem?_cons_succ,List.getElem?_nil,app_old,app_ge,set_old,set_ge,set_at,take_app,take_app1,take_set,take_set1])]
       simp [hpl,-getElem?_pos,List.getElem?_cons_zero,List.getElem?_cons_succ,List.getElem?_nil,app_old,app_ge,set_old,set_ge,set_at,take_app,take_app1,take_set,take_set1]
      rw [E_EK]
      simp [ir_term_properL0,e1,e3,hx,hc,hw,hw1,tm_fold',hpl,hpl1,-getElem?_pos,List.getElem?_cons_zero,List.getElem?_cons_succ,List.getElem?_nil,app_old,app_ge,set_old,set_ge,set_at,take_app,take_app1,take_set,take_set1]
     ·simp only at h ⊢
      rw [h] at g1
      have := g1.symm
      simp only [Bool.and_eq_true,decide_eq_true_eq] at this
      have := g2 h
      omega) 0 (c + 1,ok) (by omega) ⟨by simp; omega,fun _ => by simp; omega⟩
  simp [-Bool.forall_bool] at hlo
  generalize hok' : shape t.op t.hd t.n t.args.length = ok at *
  have key : ∀ ok',ok' = ok → callF TT HH ir_term_proper bars [t.enc,.i d,.ptr p 0] σ = some (.ret (.b (Tm.prL t.args (d + 1) (c + 1) ok').1),σ.set p (.var [.i (Tm.prL t.args (d + 1) (c + 1) ok').2])) := by
   intro ok' he
   clear ih
   have hl := prL_false t.args (d + 1) (c + 1)
   simp [ir_term_proper,g1,g2,hw,hp,hpl,e3,hlo,-getElem?_pos,List.getElem?_cons_zero,List.getElem?_cons_succ,List.getElem?_nil,app_old,app_ge,set_old,set_ge,set_at,take_app,take_app1,take_set,take_set1,tm_fold',rw_fold',dc_fold']
   repeat' ((first | refine kG_split ?_ ?_ | refine kIf_split ?_ ?_ | refine bB_split ?_ ?_ | refine kO_split ?_ ?_ | refine kCl_split ?_ ?_) <;> intro h <;> (try simp only [decide_eq_true_eq,decide_eq_false_iff_not,Bool.not_eq_true] at h) <;> simp [h,ir_term_proper,g1,g2,hw,hp,hpl,e3,hlo,-getElem?_pos,List.getElem?_cons_zero,List.getElem?_cons_succ,List.getElem?_nil,app_old,app_ge,set_old,set_ge,set_at,take_app,take_app1,take_set,take_set1,tm_fold',rw_fold',dc_fold'])
   all_goals (clear hlo; simp_all [shape])
  exact key ok rfl
theorem term_Check_spec (t : Tm) (h : t.ok) : runV TT HH [] n_term_Check [t.enc] [] = some (.ret (.i (if t.proper then 0 else 2)),[]) := by
 rw [eq_term_Check]
 have hc : ∀ bars,RR TT HH bars n_term_proper [t.enc,.i 1,.ptr 1 0] [.var (Enc.cells t),.var [.i 0]] = some (.ret (.b (t.pr 1 0).1),[.var (Enc.cells t),.var [.i (t.pr 1 0).2]]) := fun bars => by rw [RR_open (by simp) (by simp),term_proper_spec t h 1 bars _ 1 0 (by omega) (by omega) (by omega) (by omega) (by simp)]; rfl
 simp only [tm_cells] at hc
 have hp := pr_proper t
 simp [ir_term_Check,hc,hp,tm_fold',rw_fold',dc_fold']
 repeat' ((first | refine kG_split ?_ ?_ | refine kIf_split ?_ ?_ | refine bB_split ?_ ?_ | refine kO_split ?_ ?_ | refine kCl_split ?_ ?_) <;> intro h <;> (try simp only [decide_eq_true_eq,decide_eq_false_iff_not,Bool.not_eq_true] at h) <;> simp [h,ir_term_Check,hc,hp,tm_fold',rw_fold',dc_fold'])
 all_goals simp_all
end Go.Ev


namespace Go.Ev
@[simp] theorem allLen_one (k : Nat) (e : List PV) : allLen k [e] = decide (e.length = k) := by simp [allLen]
theorem term_Domains_loop : ∀ (j : Nat) (t : Tm) (d : Int) (l : List Tm) (e : Env),t.formed d = true → 41 - d ≤ j → l.length + j ≤ 1000 → look e 1 = some (.ptr 0 0) → look e 3 = some (.ptr 1 0) → look e 4 = some (.ow 2 l.length (encL l)) →
  LO TT HH [0] ir_term_DomainsL0 (e,[.var [.i t.op,.i t.hd,.i t.n,.sl false (encL t.args)],.var [.i 0,.i 0,.i 0,.sl true []],.tok 4 l.length]) =
  some (.exit 0,[(1,.ptr 0 0),(3,.ptr 1 0),(4,.ow 2 (l ++ Tm.doms j t).length (encL (l ++ Tm.doms j t)))],[.var [.i (Tm.core j t).op,.i (Tm.core j t).hd,.i (Tm.core j t).n,.sl false (encL (Tm.core j t).args)],.var [.i 0,.i 0,.i 0,.sl true []],.tok 4 (l ++ Tm.doms j t).length]) := by
 intro j
 induction j with
 | zero => intro t d l e h hj hl k1 k3 k4; have := formed_le h; omega
 | succ j ih =>
  intro t d l e h hj hl k1 k3 k4
  by_cases h2 : t.op = 2
  ·obtain ⟨a,b,hab,ha,hb⟩ := formed_pi h h2
   have hl1 : l.length + 1 ≤ LIM := by unfold LIM; omega
   have hth := ih b (d + 1) (l ++ [a]) [(1,.ptr 0 0),(3,.ptr 1 0),(4,.ow 2 (l ++ [a]).length (encL (l ++ [a])))] hb (by omega) (by simp; omega) rfl rfl rfl
   simp only [List.length_append,List.length_cons,List.length_nil,Nat.zero_add,List.append_assoc,List.cons_append,List.nil_append] at hth
   rw [LO_eq,E_EK,doms_step h2 hab,core_step h2 hab]
   generalize LO TT HH [0] ir_term_DomainsL0 = F at hth ⊢
   simp [ir_term_DomainsL0,h2,hab,hl1,hth,encL_cons,k1,k3,k4]
  ·rw [LO_eq,E_EK,doms_end h2,core_end h2]
   simp [ir_term_DomainsL0,h2,k1,k3,k4]
theorem term_Domains_spec (t : Tm) (h : t.formed 1 = true) : runV TT HH [] n_term_Domains [t.enc] [] = some (.ret (.tup [.sl false (encL (Tm.doms 40 t)),(Tm.core 40 t).enc]),[]) := by
 rw [eq_term_Domains]
 have hlo := fun e => term_Domains_loop 40 t 1 [] e h (by omega) (by simp)
 simp at hlo
 simp [ir_term_Domains,hlo,tm_fold']
theorem ref03_Split_loop : ∀ (j : Nat) (t : Tm) (d : Int) (l : List Tm) (e : Env),t.formed d = true → 41 - d ≤ j → l.length + j ≤ 1000 → look e 1 = some (.ptr 0 0) → look e 3 = some (.ptr 1 0) → look e 4 = some (.ow 2 l.length (encL l)) →
  LO TT HH [0] ir_ref03_SplitL0 (e,[.var [.i t.op,.i t.hd,.i t.n,.sl false (encL t.args)],.var [.i 0,.i 0,.i 0,.sl true []],.tok 4 l.length]) =
  some (.exit 0,[(1,.ptr 0 0),(3,.ptr 1 0),(4,.ow 2 (l ++ Tm.doms j t).length (encL (l ++ Tm.doms j t)))],[.var [.i (Tm.core j t).op,.i (Tm.core j t).hd,.i (Tm.core j t).n,.sl false (encL (Tm.core j t).args)],.var [.i 0,.i 0,.i 0,.sl true []],.tok 4 (l ++ Tm.doms j t).length]) := by
 intro j
 induction j with
 | zero => intro t d l e h hj hl k1 k3 k4; have := formed_le h; omega
 | succ j ih =>
  intro t d l e h hj hl k1 k3 k4
  by_cases h2 : t.op = 2
  ·obtain ⟨a,b,hab,ha,hb⟩ := formed_pi h h2
   have hl1 : l.length + 1 ≤ LIM := by unfold LIM; omega
   have hth := ih b (d + 1) (l ++ [a]) [(1,.ptr 0 0),(3,.ptr 1 0),(4,.ow 2 (l ++ [a]).length (encL (l ++ [a])))] hb (by omega) (by simp; omega) rfl rfl rfl
   simp only [List.length_append,List.length_cons,List.length_nil,Nat.zero_add,List.append_assoc,List.cons_append,List.nil_append] at hth
   rw [LO_eq,E_EK,doms_step h2 hab,core_step h2 hab]
   generalize LO TT HH [0] ir_ref03_SplitL0 = F at hth ⊢
   simp [ir_ref03_SplitL0,h2,hab,hl1,hth,encL_cons,k1,k3,k4]
  ·rw [LO_eq,E_EK,doms_end h2,core_end h2]
   simp [ir_ref03_SplitL0,h2,k1,k3,k4]
theorem ref03_Split_spec (t : Tm) (h : t.formed 1 = true) : runV TT HH [] n_ref03_Split [t.enc] [] = some (.ret (.tup [.sl false (encL (Tm.doms 40 t)),(Tm.core 40 t).enc]),[]) := by
 rw [eq_ref03_Split]
 have hlo := fun e => ref03_Split_loop 40 t 1 [] e h (by omega) (by simp)
 simp at hlo
 simp [ir_ref03_Split,hlo,tm_fold']
theorem sign_kind_spec (t : Tm) (h : t.formed 1 = true) : runV TT HH [] n_sign_kind [t.enc] [] = some (.ret (.b (decide ((Tm.core 40 t).op = 1))),[]) := by
 rw [eq_sign_kind]
 have h1 := RR_of (term_Domains_spec t h) (by simp) (by simp)
 simp [ir_sign_kind,h1,tm_fold',rw_fold',dc_fold']
 repeat' ((first | refine kG_split ?_ ?_ | refine kIf_split ?_ ?_ | refine bB_split ?_ ?_ | refine kO_split ?_ ?_ | refine kCl_split ?_ ?_) <;> intro h <;> (try simp only [decide_eq_true_eq,decide_eq_false_iff_not,Bool.not_eq_true] at h) <;> simp [h,ir_sign_kind,h1,tm_fold',rw_fold',dc_fold'])
theorem sign_target_spec (t : Tm) (h : t.formed 1 = true) : runV TT HH [] n_sign_target [t.enc] [] = some (.ret (.tup [.i (Tm.core 40 t).n,.b (decide ((Tm.core 40 t).op = 4) && decide ((Tm.core 40 t).hd = 2))]),[]) := by
 rw [eq_sign_target]
 have h1 := RR_of (term_Domains_spec t h) (by simp) (by simp)
 simp [ir_sign_target,h1,tm_fold',rw_fold',dc_fold']
 repeat' ((first | refine kG_split ?_ ?_ | refine kIf_split ?_ ?_ | refine bB_split ?_ ?_ | refine kO_split ?_ ?_ | refine kCl_split ?_ ?_) <;> intro h <;> (try simp only [decide_eq_true_eq,decide_eq_false_iff_not,Bool.not_eq_true] at h) <;> simp [h,ir_sign_target,h1,tm_fold',rw_fold',dc_fold'])
 all_goals simp_all
theorem ref05_family_spec (sig : List Dc) (n : Int) (d : Dc) (h0 : 0 ≤ n) (hd : sig[n.toNat]? = some d) (h : d.class_.formed 1 = true) : runV TT HH [] n_ref05_family [.sl false (encL sig),.i n] [] = some (.ret (.b (famAt sig n)),[]) := by
 rw [eq_ref05_family]
 have h1 := RR_of (ref03_Split_spec d.class_ h) (by simp) (by simp)
 simp [ir_ref05_family,h1,h0,hd,famAt,tm_fold',rw_fold',dc_fold']
 repeat' ((first | refine kG_split ?_ ?_ | refine kIf_split ?_ ?_ | refine bB_split ?_ ?_ | refine kO_split ?_ ?_ | refine kCl_split ?_ ?_) <;> intro h <;> (try simp only [decide_eq_true_eq,decide_eq_false_iff_not,Bool.not_eq_true] at h) <;> simp [h,ir_ref05_family,h1,h0,hd,famAt,tm_fold',rw_fold',dc_fold'])
theorem term_Each_spec {St : Type} (g : FuncId) (cap : List PV) (hg : g < YB) (hc : below.belowAll 0 cap = false) (S : St → Sto) (step : St → Tm × Int → St) (L : Nat) (hL : ∀ s,(S s).length = L)
  (hcb : ∀ n,L ≤ n → below.belowAll n cap = true) (good : Tm × Int → Prop)
  (hv : ∀ (x : Tm) (k : Int) (s : St) (bars : List Nat) (ext : Sto),good (x,k) → RR TT HH bars g (x.enc :: .i k :: cap) (S s ++ ext) = some (.ret (.tup []),S (step s (x,k)) ++ ext)) :
  ∀ t : Tm,t.ok → ∀ (b d : Int) (s : St) (bars : List Nat) (ext : Sto),t.formed d = true → 0 ≤ b → b ≤ d → (∀ y ∈ t.nds b,good y) →
   runV TT HH bars n_term_Each [t.enc,.i b,.fn (.func g) cap] (S s ++ ext) = some (.ret (.tup []),S ((t.nds b).foldl step s) ++ ext) :=
 Tm.ind fun t ih hok b d s bars ext hf h0 h1 hgood => by
  rw [eq_term_Each]
  have hd40 := formed_le hf
  rw [nds_eq] at hgood ⊢
  have e3 := ml hok.len
  have hv0 := fun bars ext => hv t b s bars ext (hgood _ (by simp))
  have htk : ∀ s l,(S s ++ (ext ++ l)).take (L + ext.length) = S s ++ ext := fun s l => by rw [← List.append_assoc]; exact List.take_left' (by simp [hL])
  have htk1 : ∀ s x l,(S s ++ (ext ++ x :: l)).take (L + (ext.length + 1)) = S s ++ (ext ++ [x]) := fun s x l => by
   rw [show S s ++ (ext ++ x :: l) = (S s ++ (ext ++ [x])) ++ l by simp]; exact List.take_left' (by simp [hL])
  have hlo := fun s => LO_list (T := TT) (H := HH) (b := (L + ext.length) :: bars) (A := ir_term_EachL0) t.args
   (fun i (s : St) => ([(1,.i b),(2,.fn (.func g) cap),(3,.ptr (L + ext.length) 0),(13,.sl false (encL t.args)),(14,.i t.args.length),(15,.i i)],S s ++ (ext ++ [.var (Enc.cells t)])))
   (fun r i s => (.exit 0,[],S ((Tm.ndsL t.op r i b).foldl step s) ++ (ext ++ [.var (Enc.cells t)])))
   (fun i _ => ∀ y ∈ Tm.ndsL t.op (t.args.drop i) i b,good y)
   (fun s _ => by
    rw [E_EK]
    simp [ir_term_EachL0,e3,hL,hcb,htk,htk1,Tm.ndsL,Nat.add_assoc])
   (fun i x r s hx hm hd hi hgd => by
    have e1 : (i : Int) < t.args.length := by omega
    have hw : IntKind.i64.wrap ((i : Int) + 1) = (i : Int) + 1 := wrap_small _ (by omega) (by omega)
    have u0 := und_pos t.op i
    have u1 := und_one t.op i
    have hw1 : IntKind.i64.wrap (b + t.under i) = b + und t.op i := wrap_small _ (by rw [under_und]; omega) (by rw [under_und]; omega)
    have hr : t.args.drop (i + 1) = r := by have := congrArg List.tail hd; simpa using this
    rw [hd,Tm.ndsL] at hgd
    have hu := RR_of (term_Under_spec t i) (by simp) (by simp)
    have hc1 : ∀ bars,RR TT HH bars n_term_Each [x.enc,.i (b + und t.op i),.fn (.func g) cap] (S s ++ (ext ++ [.var (Enc.cells t),.var (Enc.cells x)])) = some (.ret (.tup []),S ((x.nds (b + und t.op i)).foldl step s) ++ (ext ++ [.var (Enc.cells t),.var (Enc.cells x)])) := fun bars => by
     rw [RR_open (by simp [hc]) (by simp [hc]),ih x hm (hok.sub x hm) (b + und t.op i) (d + 1) s bars _ (formed_sub hf hm) (by omega) (by omega) (fun y hy => hgd y (by simp [hy]))]
    refine .inr ⟨(x.nds (b + und t.op i)).foldl step s,?_,fun y hy => hgd y (by rw [hr] at hy; push_cast at hy; exact List.mem_append_right _ hy),by simp [Tm.ndsL]⟩
    simp only [tm_cells] at hc1
    rw [E_EK]
    simp [ir_term_EachL0,e1,e3,hx,hc1,hu,hw,hw1,tm_fold',hL,hcb,htk,htk1,-getElem?_pos,List.getElem?_cons_zero,List.getElem?_cons_succ,List.getElem?_nil,app_old,app_ge,set_old,set_ge,set_at,take_app,take_app1,take_set,take_set1,Nat.add_assoc]) 0 s (by omega)
  have hlo := fun s => hlo s (fun y hy => hgood y (List.mem_cons_of_mem _ hy))
  simp at hlo
  simp [ir_term_Each,hL,hv0,hg,e3,tm_fold',hlo,htk,-getElem?_pos,List.getElem?_cons_zero,List.getElem?_cons_succ,List.getElem?_nil,app_old,app_ge,set_old,set_ge,set_at,take_app,take_app1,take_set,take_set1,Nat.add_assoc]
end Go.Ev


namespace Go.Ev
@[simp] theorem allLen_nil (k : Nat) : allLen k [] = true := rfl
theorem tw_get (l : List Int) (n : Int) : ∀ x,l[(l.takeWhile (fun x => decide (x < n))).length]? = some x → ¬ x < n := by
 induction l with
 | nil => intro x h; simp at h
 | cons a r ih =>
  intro x h
  by_cases ha : a < n
  ·simp [List.takeWhile_cons,ha] at h; exact ih x h
  ·simp [List.takeWhile_cons,ha] at h; omega
theorem tw_len (l : List Int) (p : Int → Bool) : (l.takeWhile p).length ≤ l.length := by
 induction l with
 | nil => simp
 | cons a r ih => simp only [List.takeWhile_cons]; split <;> simp <;> omega
theorem putL_eq (l : List Int) (n : Int) : putL l n = if l[(l.takeWhile (fun x => decide (x < n))).length]? = some n then l else l.take (l.takeWhile (fun x => decide (x < n))).length ++ n :: l.drop (l.takeWhile (fun x => decide (x < n))).length := by
 induction l with
 | nil => simp [putL]
 | cons a r ih =>
  unfold putL
  by_cases ha : a < n
  ·simp only [List.takeWhile_cons,ha,decide_true,if_true,List.length_cons,List.getElem?_cons_succ,ih,List.take_succ_cons,List.drop_succ_cons,List.cons_append]
   split <;> rfl
  ·by_cases h2 : a = n <;> simp [List.takeWhile_cons,ha,h2]
theorem ref03_put_spec (tt : Bool) (l : List Int) (n : Int) (hl : l.length + 1 ≤ LIM) : runV TT HH [] n_ref03_put [.sl tt (encL l),.i n] [] = some (.ret (.sl false (encL (putL l n))),[]) := by
 rw [eq_ref03_put,putL_eq]
 have e3 : l.length < 2 ^ 63 := by unfold LIM at hl; omega
 have hlo := LO_list (T := TT) (H := HH) (b := [0]) (A := ir_ref03_putL0) l
  (fun i (_ : Unit) => ([(0,.sl false (encL l)),(1,.i n),(5,.i i)],[]))
  (fun r i _ => (.exit 0,[(0,.sl false (encL l)),(1,.i n),(5,.i (i + (r.takeWhile (fun x => decide (x < n))).length))],[]))
  (fun _ _ => True)
  (fun _ _ => by
   rw [E_EK]
   simp [ir_ref03_putL0,e3])
  (fun i x r _ hx hm hd hi _ => by
   have e1 : (i : Int) < l.length := by omega
   have hw : IntKind.i64.wrap ((i : Int) + 1) = (i : Int) + 1 := wrap_small _ (by omega) (by omega)
   rw [E_EK]
   by_cases h : x < n <;> simp [ir_ref03_putL0,e1,e3,hx,hw,h,List.takeWhile_cons]
   omega) 0 () (by omega) trivial
 simp at hlo
 have hg := tw_get l n
 have hk := tw_len l (fun x => decide (x < n))
 generalize (l.takeWhile (fun x => decide (x < n))).length = k at hlo hg hk ⊢
 by_cases hkl : k < l.length
 ·obtain ⟨x,hx,-,-⟩ := get_some (l := l) (i := k) hkl
  have e1 : (k : Int) < l.length := by omega
  by_cases hxn : x = n
  ·subst hxn
   simp [ir_ref03_put,hlo,e3,e1,hx]
  ·have hn : ¬ l[k] = n := by rw [List.getElem?_eq_getElem hkl] at hx; simp only [Option.some.injEq] at hx; rw [hx]; exact hxn
   have h1 : k + 1 ≤ LIM := by omega
   have h2 : k + 1 + (l.length - k) ≤ LIM := by omega
   have h3 : 0 < l.length - k := by omega
   have h4 : (k : Int) ≤ l.length := by omega
   have h5 : min k l.length = k := by omega
   have h6 : k ≤ LIM := by omega
   by_cases k0 : k = 0
   ·subst k0
    have e0 : 0 < l.length := by omega
    have l1 : 1 ≤ LIM := by decide
    have l2 : 1 + l.length ≤ LIM := by omega
    have hcs : ([PV.i n] :: encL l) = encL (n :: l) := rfl
    simp [ir_ref03_put,hlo,l1,l2,hcs,e3,e1,hx,hxn,hn,h2,h3,e0,-getElem?_pos,List.getElem?_cons_zero,List.getElem?_cons_succ]
   ·have h7 : 0 < k := by omega
    have h8 : (l.drop k).take (l.length - k) = l.drop k := List.take_of_length_le (by simp)
    simp [ir_ref03_put,hlo,e3,e1,hx,hxn,hn,h1,h2,h3,h4,h5,h6,h7,h8,hk,-getElem?_pos,List.getElem?_cons_zero,List.getElem?_cons_succ]
 ·have hkl : k = l.length := by omega
  subst hkl
  have h1 : l.length ≤ LIM := by omega
  by_cases k0 : l = []
  ·subst k0
   simp at hlo
   have l1 : 1 ≤ LIM := by decide
   have hcs : [[PV.i n]] = encL [n] := rfl
   simp [ir_ref03_put,hlo,l1,hcs]
  ·have h7 : 0 < l.length := by cases l <;> simp at k0 ⊢
   simp [ir_ref03_put,hlo,e3,h1,hl,h7]
theorem ref03_heads_spec : ∀ t : Tm,t.ok → ∀ (head b d : Int) (tt : Bool) (l : List Int),t.formed d = true → 0 ≤ b → b ≤ d → l.length + t.nodes ≤ 4000 →
  runV TT HH [] n_ref03_heads [t.enc,.i head,.i b,.sl tt (encL l)] [] = some (.ret (.sl false (encL (heads head (t.nds b) l))),[]) :=
 Tm.ind fun t ih hok head b d tt l hf h0 h1 hln => by
  rw [eq_ref03_heads,nds_eq,heads_cons]
  have e3 := ml hok.len
  have hd40 := formed_le hf
  have hn := nodes_eq t
  have hl1 : (hstep head l (t,b)).length ≤ l.length + 1 := by
   unfold hstep; split
   ·exact putL_len ..
   ·omega
  have hlo := fun l0 : List Int => LO_list (T := TT) (H := HH) (b := [0]) (A := ir_ref03_headsL0) t.args
   (fun i (l : List Int) => ([(1,.i head),(2,.i b),(3,.sl false (encL l)),(4,.ptr 0 0),(9,.i i)],[.var [.i t.op,.i t.hd,.i t.n,.sl false (encL t.args)]]))
   (fun r i l => (.exit 0,[(3,.sl false (encL (heads head (Tm.ndsL t.op r i b) l)))],[.var [.i t.op,.i t.hd,.i t.n,.sl false (encL t.args)]]))
   (fun i l => l.length + Tm.nodesL (t.args.drop i) ≤ 4000)
   (fun l _ => by
    rw [E_EK]
    simp [ir_ref03_headsL0,e3,Tm.ndsL,heads_nil])
   (fun i x r l hx hm hd hi hv => by
    have e1 : (i : Int) < t.args.length := by omega
    have hw : IntKind.i64.wrap ((i : Int) + 1) = (i : Int) + 1 := wrap_small _ (by omega) (by omega)
    have u0 := und_pos t.op i
    have u1 := und_one t.op i
    have hw1 : IntKind.i64.wrap (b + t.under i) = b + und t.op i := wrap_small _ (by rw [under_und]; omega) (by rw [under_und]; omega)
    have hr : t.args.drop (i + 1) = r := by have := congrArg List.tail hd; simpa using this
    rw [hd,Tm.nodesL] at hv
    have hu := RR_of (ref03_below_spec t i) (by simp) (by simp)
    have hc := RR_of (ih x hm (hok.sub x hm) head (b + und t.op i) (d + 1) false l (formed_sub hf hm) (by omega) (by omega) (by omega)) (by simp) (by simp)
    have hl2 := heads_len head (x.nds (b + und t.op i)) l
    rw [nds_len] at hl2
    refine .inr ⟨heads head (x.nds (b + und t.op i)) l,?_,by rw [hr]; omega,by simp [Tm.ndsL,heads_app]⟩
    rw [E_EK]
    simp [ir_ref03_headsL0,e1,e3,hx,hc,hu,hw,hw1,tm_fold']) 0 l0 (by omega)
  have hlo := fun l0 (h : l0.length + Tm.nodesL t.args ≤ 4000) => hlo l0 (by simpa using h)
  have hlo := hlo (hstep head l (t,b)) (by omega)
  simp at hlo
  clear ih
  have hp : ∀ n,RR TT HH [0] n_ref03_put [.sl false (encL l),.i n] [.var [.i t.op,.i t.hd,.i t.n,.sl false (encL t.args)]] = some (.ret (.sl false (encL (putL l n))),[.var [.i t.op,.i t.hd,.i t.n,.sl false (encL t.args)]]) := fun n => RR_of (ref03_put_spec false l n (by unfold LIM; omega)) (by simp) (by simp) _ _
  by_cases a1 : t.op = 4
  ·by_cases a2 : t.hd = head
   ·by_cases a3 : head = 1
    ·by_cases a4 : b ≤ t.n
     ·have hw : IntKind.i64.wrap (t.n - b) = t.n - b := wrap_small _ (by omega) (by have := hok.here.2.2.1.2; omega)
      simp [hstep,hval,a1,a2,a3,a4] at hlo hp ⊢
      simp [ir_ref03_heads,a1,a2,a3,a4,hlo,hp,hw]
     ·simp [hstep,hval,a1,a2,a3,a4] at hlo ⊢
      simp [ir_ref03_heads,a1,a2,a3,a4,hlo]
    ·simp [hstep,hval,a1,a2,a3] at hlo hp ⊢
     simp [ir_ref03_heads,a1,a2,a3,hlo,hp]
   ·simp [hstep,hval,a1,a2] at hlo ⊢
    simp [ir_ref03_heads,a1,a2,hlo]
  ·simp [hstep,hval,a1] at hlo ⊢
   simp [ir_ref03_heads,a1,hlo]
theorem ref03_Free_spec (t : Tm) (h : t.ok) (d : Int) (hf : t.formed d = true) (hd : 0 ≤ d) (hn : t.nodes ≤ 4000) : runV TT HH [] n_ref03_Free [t.enc] [] = some (.ret (.sl false (encL (heads 1 (t.nds 0) []))),[]) := by
 rw [eq_ref03_Free]
 have h1 := RR_of (ref03_heads_spec t h 1 0 d true [] hf (by omega) (by omega) (by simpa using hn)) (by simp) (by simp)
 simp only [encL_nil] at h1
 simp [ir_ref03_Free,h1,tm_fold',rw_fold',dc_fold']
 repeat' ((first | refine kG_split ?_ ?_ | refine kIf_split ?_ ?_ | refine bB_split ?_ ?_ | refine kO_split ?_ ?_ | refine kCl_split ?_ ?_) <;> intro h <;> (try simp only [decide_eq_true_eq,decide_eq_false_iff_not,Bool.not_eq_true] at h) <;> simp [h,ir_ref03_Free,h1,tm_fold',rw_fold',dc_fold'])
theorem ref03_Constants_spec (t : Tm) (h : t.ok) (d : Int) (hf : t.formed d = true) (hd : 0 ≤ d) (hn : t.nodes ≤ 4000) : runV TT HH [] n_ref03_Constants [t.enc] [] = some (.ret (.sl false (encL (heads 2 (t.nds 0) []))),[]) := by
 rw [eq_ref03_Constants]
 have h1 := RR_of (ref03_heads_spec t h 2 0 d true [] hf (by omega) (by omega) (by simpa using hn)) (by simp) (by simp)
 simp only [encL_nil] at h1
 simp [ir_ref03_Constants,h1,tm_fold',rw_fold',dc_fold']
 repeat' ((first | refine kG_split ?_ ?_ | refine kIf_split ?_ ?_ | refine bB_split ?_ ?_ | refine kO_split ?_ ?_ | refine kCl_split ?_ ?_) <;> intro h <;> (try simp only [decide_eq_true_eq,decide_eq_false_iff_not,Bool.not_eq_true] at h) <;> simp [h,ir_ref03_Constants,h1,tm_fold',rw_fold',dc_fold'])
theorem ref03_Metas_spec (t : Tm) (h : t.ok) (d : Int) (hf : t.formed d = true) (hd : 0 ≤ d) (hn : t.nodes ≤ 4000) : runV TT HH [] n_ref03_Metas [t.enc] [] = some (.ret (.sl false (encL (heads 3 (t.nds 0) []))),[]) := by
 rw [eq_ref03_Metas]
 have h1 := RR_of (ref03_heads_spec t h 3 0 d true [] hf (by omega) (by omega) (by simpa using hn)) (by simp) (by simp)
 simp only [encL_nil] at h1
 simp [ir_ref03_Metas,h1,tm_fold',rw_fold',dc_fold']
 repeat' ((first | refine kG_split ?_ ?_ | refine kIf_split ?_ ?_ | refine bB_split ?_ ?_ | refine kO_split ?_ ?_ | refine kCl_split ?_ ?_) <;> intro h <;> (try simp only [decide_eq_true_eq,decide_eq_false_iff_not,Bool.not_eq_true] at h) <;> simp [h,ir_ref03_Metas,h1,tm_fold',rw_fold',dc_fold'])
theorem ref03_low_spec : ∀ t : Tm,t.ok → ∀ (f d : Int),t.formed d = true → 0 ≤ f → f ≤ d →
  runV TT HH [] n_ref03_low [t.enc,.i f,.i f] [] = some (.ret (.b ((t.nds f).any (isV 0))),[]) :=
 Tm.ind fun t ih hok f d hf h0 h1 => by
  rw [eq_ref03_low,nds_eq,List.any_cons]
  have e3 := ml hok.len
  have hd40 := formed_le hf
  have hlo := LO_list (T := TT) (H := HH) (b := [0]) (A := ir_ref03_lowL0) t.args
   (fun i (_ : Unit) => ([(1,.i f),(2,.i f),(3,.ptr 0 0),(7,.i i)],[.var [.i t.op,.i t.hd,.i t.n,.sl false (encL t.args)]]))
   (fun r i _ => if (Tm.ndsL t.op r i f).any (isV 0) then (.ret,[(6,.b true)],[.var [.i t.op,.i t.hd,.i t.n,.sl false (encL t.args)]]) else (.exit 0,[],[.var [.i t.op,.i t.hd,.i t.n,.sl false (encL t.args)]]))
   (fun _ _ => True)
   (fun _ _ => by
    rw [E_EK]
    simp [ir_ref03_lowL0,e3,Tm.ndsL])
   (fun i x r _ hx hm hd hi _ => by
    have e1 : (i : Int) < t.args.length := by omega
    have hw : IntKind.i64.wrap ((i : Int) + 1) = (i : Int) + 1 := wrap_small _ (by omega) (by omega)
    have u0 := und_pos t.op i
    have u1 := und_one t.op i
    have hw1 : IntKind.i64.wrap (f + t.under i) = f + und t.op i := wrap_small _ (by rw [under_und]; omega) (by rw [under_und]; omega)
    have hu := RR_of (ref03_below_spec t i) (by simp) (by simp)
    have hc := RR_of (ih x hm (hok.sub x hm) (f + und t.op i) (d + 1) (formed_sub hf hm) (by omega) (by omega)) (by simp) (by simp)
    rw [E_EK,Tm.ndsL,List.any_append]
    cases h : (x.nds (f + und t.op i)).any (isV 0) <;> simp [-List.any_eq_true,-List.any_eq_false,ir_ref03_lowL0,e1,e3,hx,hc,hu,hw,hw1,tm_fold',h]) 0 () (by omega) trivial
  simp [-List.any_eq_true,-List.any_eq_false] at hlo
  clear ih
  have hv : isV 0 (t,f) = (decide (t.op = 4) && (decide (t.hd = 1) && decide (t.n = f))) := by simp [isV]
  rw [hv]
  by_cases a1 : t.op = 4
  ·by_cases a2 : t.hd = 1
   ·by_cases a3 : t.n = f
    ·simp [ir_ref03_low,a1,a2,a3]
    ·by_cases a4 : f ≤ t.n
     ·have a5 : ¬ t.n ≤ f := by omega
      cases h : (Tm.ndsL t.op t.args 0 f).any (isV 0) <;> simp [h,-List.any_eq_true,-List.any_eq_false] at hlo <;> (rw [a1] at h hlo; try rw [a2] at hlo) <;> simp [ir_ref03_low,a1,a2,a3,a4,a5,hlo,h,-List.any_eq_true,-List.any_eq_false]
     ·cases h : (Tm.ndsL t.op t.args 0 f).any (isV 0) <;> simp [h,-List.any_eq_true,-List.any_eq_false] at hlo <;> (rw [a1] at h hlo; try rw [a2] at hlo) <;> simp [ir_ref03_low,a1,a2,a3,a4,hlo,h,-List.any_eq_true,-List.any_eq_false]
   ·cases h : (Tm.ndsL t.op t.args 0 f).any (isV 0) <;> simp [h,-List.any_eq_true,-List.any_eq_false] at hlo <;> rw [a1] at h hlo <;> simp [ir_ref03_low,a1,a2,hlo,h,-List.any_eq_true,-List.any_eq_false]
  ·cases h : (Tm.ndsL t.op t.args 0 f).any (isV 0) <;> simp [h,-List.any_eq_true,-List.any_eq_false] at hlo <;> simp [ir_ref03_low,a1,hlo,h,-List.any_eq_true,-List.any_eq_false]
theorem ref03_Occurs_spec (t : Tm) (h : t.ok) (d : Int) (hf : t.formed d = true) (hd : 0 ≤ d) : runV TT HH [] n_ref03_Occurs [t.enc,.i 0] [] = some (.ret (.b (occ t 0)),[]) := by
 rw [eq_ref03_Occurs]
 have h1 := RR_of (ref03_low_spec t h 0 d hf (by omega) (by omega)) (by simp) (by simp)
 simp [ir_ref03_Occurs,h1,occ,tm_fold',rw_fold',dc_fold']
 repeat' ((first | refine kG_split ?_ ?_ | refine kIf_split ?_ ?_ | refine bB_split ?_ ?_ | refine kO_split ?_ ?_ | refine kCl_split ?_ ?_) <;> intro h <;> (try simp only [decide_eq_true_eq,decide_eq_false_iff_not,Bool.not_eq_true] at h) <;> simp [h,ir_ref03_Occurs,h1,occ,tm_fold',rw_fold',dc_fold'])
end Go.Ev


namespace Go.Ev
theorem args_nodes (l : List Tm) : l.length ≤ Tm.nodesL l := by
 induction l with
 | nil => simp
 | cons a r ih => have := nodes_pos a; simp [Tm.nodesL]; omega
theorem ref03_moved_spec : ∀ t : Tm,t.ok → ∀ (f d : Int),t.formed d = true → 0 ≤ f → f ≤ d → t.nodes ≤ 4000 →
  runV TT HH [] n_ref03_moved [t.enc,.i (-1),.i f] [] = some (.ret (t.moved (-1) f).enc,[]) :=
 Tm.ind fun t ih hok f d hf h0 h1 hln => by
  rw [eq_ref03_moved,moved_eq]
  have e3 := ml hok.len
  have hd40 := formed_le hf
  have hn := nodes_eq t
  have hal := args_nodes t.args
  have hlo := fun (n' : Int) => LO_list (T := TT) (H := HH) (b := [0]) (A := ir_ref03_movedL0) t.args
   (fun i (l : List Tm) => ([(1,.i (-1)),(2,.i f),(3,.ptr 0 0),(6,.ptr 1 0),(7,.ptr 2 0),(8,.i i)],[.var [.i t.op,.i t.hd,.i t.n,.sl false (encL t.args)],.var [.i 0,.i 0,.i 0,.sl true []],.var [.i t.op,.i t.hd,.i n',.ow 3 l.length (encL l)],.tok 4 l.length]))
   (fun r i l => (.exit 0,[(6,.ptr 1 0),(7,.ptr 2 0)],[.var [.i t.op,.i t.hd,.i t.n,.sl false (encL t.args)],.var [.i 0,.i 0,.i 0,.sl true []],.var [.i t.op,.i t.hd,.i n',.ow 3 (l ++ Tm.movedL t.op r i (-1) f).length (encL (l ++ Tm.movedL t.op r i (-1) f))],.tok 4 (l ++ Tm.movedL t.op r i (-1) f).length]))
   (fun i l => l.length ≤ i)
   (fun l _ => by
    rw [E_EK]
    simp [ir_ref03_movedL0,e3,Tm.movedL])
   (fun i x r l hx hm hd hi hv => by
    have e1 : (i : Int) < t.args.length := by omega
    have hw : IntKind.i64.wrap ((i : Int) + 1) = (i : Int) + 1 := wrap_small _ (by omega) (by omega)
    have u0 := und_pos t.op i
    have u1 := und_one t.op i
    have hw1 : IntKind.i64.wrap (f + t.under i) = f + und t.op i := wrap_small _ (by rw [under_und]; omega) (by rw [under_und]; omega)
    have hu := RR_of (ref03_below_spec t i) (by simp) (by simp)
    have hns := nodes_sub hm
    have hc := RR_of (ih x hm (hok.sub x hm) (f + und t.op i) (d + 1) (formed_sub hf hm) (by omega) (by omega) (by omega)) (by simp) (by simp)
    have hl1 : l.length + 1 ≤ LIM := by unfold LIM; omega
    refine .inr ⟨l ++ [x.moved (-1) (f + und t.op i)],?_,by simp; omega,by simp [Tm.movedL]⟩
    rw [E_EK]
    simp [ir_ref03_movedL0,e1,e3,hx,hc,hu,hw,hw1,hl1,tm_fold',barsOk]) 0 [] (by omega) (by simp)
  simp at hlo
  clear ih
  by_cases a1 : t.op = 4 ∧ t.hd = 1 ∧ f ≤ t.n
  ·have hw : IntKind.i64.wrap (t.n + -1) = t.n + -1 := wrap_small _ (by omega) (by have := hok.here.2.2.1.2; omega)
   have hlo := hlo (t.n + -1)
   rw [if_pos a1]
   obtain ⟨a1,a2,a3⟩ := a1
   simp [a1,a2] at hlo
   simp [ir_ref03_moved,a1,a2,a3,hw,hlo,Tm.enc,barsOk]
  ·have hlo := hlo t.n
   rw [if_neg a1]
   by_cases a2 : t.op = 4
   ·by_cases a3 : t.hd = 1
    ·have a4 : ¬ f ≤ t.n := fun h => a1 ⟨a2,a3,h⟩
     simp [a2,a3] at hlo
     simp [ir_ref03_moved,a2,a3,a4,hlo,Tm.enc,barsOk]
    ·simp [a2] at hlo
     simp [ir_ref03_moved,a2,a3,hlo,Tm.enc,barsOk]
   ·simp [ir_ref03_moved,a2,hlo,Tm.enc,barsOk]
theorem lowered_proper {t : Tm} (h : t.proper = true) (ho : occ t 0 = false) : (t.moved (-1) 0).proper = true := by
 have h1 := proper_nodes h
 have h2 := proper_formed h
 have h3 : (t.nds 0).all (fun x => !isV 0 x) = true := by
  rw [List.all_eq_true]
  intro x hx
  unfold occ at ho
  rw [List.any_eq_false] at ho
  simpa using ho x hx
 have h4 := moved_formed t 0 1 (by omega) h2 h3
 have h5 := moved_nodes t (-1) 0
 simp only [Tm.proper,h4,Bool.and_true,decide_eq_true_eq]
 omega
mutual
theorem moved_ok : ∀ (t : Tm),t.ok → ∀ (f d : Int),0 ≤ f → t.formed d = true → (t.moved (-1) f).ok
 | .mk op hd n args,h,f,d,h0,hf => by
  have hh := h.here
  refine ⟨?_,?_⟩
  ·rw [Tm.moved]
   simp only [Tm.Ok,Tm.op_mk,Tm.hd_mk,Tm.n_mk,Tm.args_mk,movedL_len] at hh ⊢
   refine ⟨hh.1,hh.2.1,?_,hh.2.2.2⟩
   split
   ·have := hh.2.2.1; unfold I64 at this ⊢; omega
   ·exact hh.2.2.1
  ·rw [Tm.moved,Tm.args_mk]
   exact movedL_ok args op 0 f (d + 1) (by omega) h.sub (fun x hx => formed_sub hf hx)
theorem movedL_ok : ∀ (l : List Tm) (op i f d : Int),0 ≤ f → (∀ x ∈ l,x.ok) → (∀ x ∈ l,x.formed d = true) → ∀ x ∈ Tm.movedL op l i (-1) f,x.ok
 | [],_,_,_,_,_,_,_,x,hx => by cases hx
 | t :: r,op,i,f,d,h0,h,hf,x,hx => by
  rw [Tm.movedL] at hx
  have hu := und_pos op i
  rcases List.mem_cons.1 hx with rfl | hx
  ·exact moved_ok t (h t (by simp)) _ d (by omega) (hf t (by simp))
  ·exact movedL_ok r op (i + 1) f d h0 (fun x hx => h x (by simp [hx])) (fun x hx => hf x (by simp [hx])) x hx
end
theorem ref03_Shift_spec (t : Tm) (h : t.ok) (hp : t.proper = true) (ho : occ t 0 = false) : runV TT HH [] n_ref03_Shift [t.enc,.i (-1),.i 0] [] = some (.ret (.tup [(t.moved (-1) 0).enc,.i 0]),[]) := by
 rw [eq_ref03_Shift]
 have hf := proper_formed hp
 have hn := proper_nodes hp
 have h1 := RR_of (ref03_Proper_spec t h) (by simp) (by simp)
 have h2 := RR_of (ref03_low_spec t h 0 1 hf (by omega) (by omega)) (by simp) (by simp)
 have h3 := RR_of (ref03_moved_spec t h 0 1 hf (by omega) (by omega) (by omega)) (by simp) (by simp)
 have h4 := RR_of (ref03_Proper_spec (t.moved (-1) 0) (moved_ok t h 0 1 (by omega) hf)) (by simp) (by simp)
 rw [lowered_proper hp ho] at h4
 unfold occ at ho
 rw [ho] at h2
 rw [hp] at h1
 have w1 : IntKind.i64.wrap 1 = 1 := wrap_small _ (by omega) (by omega)
 have w0 : IntKind.i64.wrap 0 = 0 := wrap_small _ (by omega) (by omega)
 simp [ir_ref03_Shift,h1,h2,h3,h4,w1,w0,tm_fold']
theorem ref07_lowered_spec (t : Tm) (h : t.ok) (hp : t.proper = true) (ho : occ t 0 = false) : runV TT HH [] n_ref07_lowered [t.enc] [] = some (.ret (t.moved (-1) 0).enc,[]) := by
 rw [eq_ref07_lowered]
 have h1 := RR_of (ref03_Shift_spec t h hp ho) (by simp) (by simp)
 simp [ir_ref07_lowered,h1,tm_fold',rw_fold',dc_fold']
 repeat' ((first | refine kG_split ?_ ?_ | refine kIf_split ?_ ?_ | refine bB_split ?_ ?_ | refine kO_split ?_ ?_ | refine kCl_split ?_ ?_) <;> intro h <;> (try simp only [decide_eq_true_eq,decide_eq_false_iff_not,Bool.not_eq_true] at h) <;> simp [h,ir_ref07_lowered,h1,tm_fold',rw_fold',dc_fold'])
end Go.Ev


namespace Go.Ev
theorem barsOk_le {id : Nat} (x : PV) : ∀ {bars : List Nat},(∀ b ∈ bars,b ≤ id) → barsOk bars id x = true
 | [],_ => rfl
 | b :: r,h => by
  simp only [barsOk,Bool.and_eq_true,Bool.or_eq_true,decide_eq_true_eq]
  exact ⟨.inl (h b (by simp)),barsOk_le x fun b hb => h b (by simp [hb])⟩
theorem term_Moved_1_spec (op hd n b f : Int) (p q : Nat) (bars : List Nat) (σ : Sto) (hq : σ[q]? = some (.var [.i f])) (hp : σ[p]? = some (.var [.i (-1)])) (hn : op = 4 → 0 ≤ n ∧ n ≤ 9999) (hb : 0 ≤ b) (hb1 : b ≤ 100) :
  runV TT HH bars n_term_Moved_1 [.agg [.i op,.i hd,.i n,.sl true []],.i b,.ptr q 0,.ptr p 0] σ = some (.ret (.agg [.i op,.i hd,.i (if op = 4 ∧ hd = 1 ∧ f + b ≤ n then n + -1 else n),.sl true []]),σ) := by
 rw [eq_term_Moved_1]
 have hql := lt_of_get hq
 have hpl := lt_of_get hp
 have t1 : ∀ a b : Ob,(σ ++ [a,b]).take σ.length = σ := fun a b => List.take_left
 by_cases a1 : op = 4
 ·obtain ⟨n0,n1⟩ := hn a1
  have hw : IntKind.i64.wrap (n - b) = n - b := wrap_small _ (by omega) (by omega)
  have hw1 : IntKind.i64.wrap (n + -1) = n + -1 := wrap_small _ (by omega) (by omega)
  by_cases a2 : hd = 1
  ·by_cases a3 : f + b ≤ n
   ·have a4 : f ≤ n - b := by omega
    simp [ir_term_Moved_1,a1,a2,a3,a4,hw,hw1,hp,hq,hpl,hql,t1,-getElem?_pos,List.getElem?_cons_zero,List.getElem?_cons_succ,List.getElem?_nil,app_old,app_ge,set_old,set_ge,set_at,take_app,take_app1,take_set,take_set1]
   ·have a4 : ¬ f ≤ n - b := by omega
    simp [ir_term_Moved_1,a1,a2,a3,a4,hw,hw1,hp,hq,hpl,hql,t1,-getElem?_pos,List.getElem?_cons_zero,List.getElem?_cons_succ,List.getElem?_nil,app_old,app_ge,set_old,set_ge,set_at,take_app,take_app1,take_set,take_set1]
  ·simp [ir_term_Moved_1,a1,a2,hw,hw1,hp,hq,hpl,hql,t1,-getElem?_pos,List.getElem?_cons_zero,List.getElem?_cons_succ,List.getElem?_nil,app_old,app_ge,set_old,set_ge,set_at,take_app,take_app1,take_set,take_set1]
 ·simp [ir_term_Moved_1,a1,hp,hq,hpl,hql,t1,-getElem?_pos,List.getElem?_cons_zero,List.getElem?_cons_succ,List.getElem?_nil,app_old,app_ge,set_old,set_ge,set_at,take_app,take_app1,take_set,take_set1]
theorem term_Map_spec (p q : Nat) (f : Int) (hf0 : 0 ≤ f) : ∀ t : Tm,t.ok → ∀ (b d : Int) (bars : List Nat) (σ : Sto),t.formed d = true → 0 ≤ b → b ≤ d → t.nodes ≤ 4000 → (∀ x ∈ bars,x ≤ σ.length) → σ[q]? = some (.var [.i f]) → σ[p]? = some (.var [.i (-1)]) →
  runV TT HH bars n_term_Map [t.enc,.i b,.fn (.func n_term_Moved_1) [.ptr q 0,.ptr p 0]] σ = some (.ret (t.moved (-1) (f + b)).enc,σ) :=
 Tm.ind fun t ih hok b d bars σ hf h0 h1 hln hbars hq hp => by
  rw [eq_term_Map,moved_eq]
  have e3 := ml hok.len
  have hd40 := formed_le hf
  have hn := nodes_eq t
  have hql := lt_of_get hq
  have hpl := lt_of_get hp
  have hal := args_nodes t.args
  have hsh := formed_shape hf
  generalize hL : σ.length = L at *
  have tk : ∀ l : Sto,(σ ++ l).take L = σ := fun l => List.take_left' hL
  have tk4 : ∀ (a b c d : Ob) (l : Sto),(σ ++ a :: b :: c :: d :: l).take (L + 4) = σ ++ [a,b,c,d] := fun a b c d l => by
   rw [show σ ++ a :: b :: c :: d :: l = (σ ++ [a,b,c,d]) ++ l by simp]; exact List.take_left' (by simp [hL])
  have hB1 : ∀ x,barsOk (L :: bars) (L + 2) x = true := fun x => barsOk_le x fun b hb => by
   rcases List.mem_cons.1 hb with rfl | hb
   ·omega
   ·have := hbars b hb; omega
  have hB2 : ∀ x,barsOk bars (L + 2) x = true := fun x => barsOk_le x fun b hb => by have := hbars b hb; omega
  have hB3 : ∀ x,barsOk bars (L + 1) x = true := fun x => barsOk_le x fun b hb => by have := hbars b hb; omega
  have hq4 : q < L + 4 := by omega
  have hp4 : p < L + 4 := by omega
  have hlo := fun (n' : Int) => LO_list (T := TT) (H := HH) (b := L :: bars) (A := ir_term_MapL0) t.args
   (fun i (l : List Tm) => ([(1,.i b),(2,.fn (.func n_term_Moved_1) [.ptr q 0,.ptr p 0]),(3,.ptr L 0),(6,.ptr (L + 1) 0),(7,.ptr (L + 2) 0),(21,.sl false (encL t.args)),(22,.i t.args.length),(23,.i i)],σ ++ [.var [.i t.op,.i t.hd,.i t.n,.sl false (encL t.args)],.var [.i 0,.i 0,.i 0,.sl true []],.var [.i t.op,.i t.hd,.i n',.ow (L + 3) l.length (encL l)],.tok 4 l.length]))
   (fun r i l => (.exit 0,[(6,.ptr (L + 1) 0),(7,.ptr (L + 2) 0)],σ ++ [.var [.i t.op,.i t.hd,.i t.n,.sl false (encL t.args)],.var [.i 0,.i 0,.i 0,.sl true []],.var [.i t.op,.i t.hd,.i n',.ow (L + 3) (l ++ Tm.movedL t.op r i (-1) (f + b)).length (encL (l ++ Tm.movedL t.op r i (-1) (f + b)))],.tok 4 (l ++ Tm.movedL t.op r i (-1) (f + b)).length]))
   (fun i l => l.length ≤ i)
   (fun l _ => by
    rw [E_EK]
    simp [ir_term_MapL0,e3,hL,tk4,Tm.movedL])
   (fun i x r l hx hm hd hi hv => by
    have e1 : (i : Int) < t.args.length := by omega
    have hw : IntKind.i64.wrap ((i : Int) + 1) = (i : Int) + 1 := wrap_small _ (by omega) (by omega)
    have u0 := und_pos t.op i
    have u1 := und_one t.op i
    have hw1 : IntKind.i64.wrap (b + t.under i) = b + und t.op i := wrap_small _ (by rw [under_und]; omega) (by rw [under_und]; omega)
    have hu := RR_of (term_Under_spec t i) (by simp) (by simp)
    have hns := nodes_sub hm
    have hl1 : l.length + 1 ≤ LIM := by unfold LIM; omega
    have hc : ∀ a0 a1 a2 a3 a4 : Ob,RR TT HH ((L + 4) :: L :: bars) n_term_Map [x.enc,.i (b + und t.op i),.fn (.func n_term_Moved_1) [.ptr q 0,.ptr p 0]] (σ ++ [a0,a1,a2,a3,a4]) = some (.ret (x.moved (-1) (f + (b + und t.op i))).enc,σ ++ [a0,a1,a2,a3,a4]) := fun a0 a1 a2 a3 a4 => by
     rw [RR_open (by simp) (by simp),ih x hm (hok.sub x hm) (b + und t.op i) (d + 1) _ _ (formed_sub hf hm) (by omega) (by omega) (by omega) (fun y hy => by
      simp only [List.length_append,hL,List.length_cons,List.length_nil]
      simp only [List.mem_cons] at hy
      rcases hy with rfl | rfl | hy
      ·omega
      ·omega
      ·have := hbars y hy; omega) (by rw [app_old _ (by omega)]; exact hq) (by rw [app_old _ (by omega)]; exact hp)]
    refine .inr ⟨l ++ [x.moved (-1) (f + (b + und t.op i))],?_,by simp; omega,by simp [Tm.movedL,Int.add_assoc]⟩
    rw [E_EK]
    simp [ir_term_MapL0,e1,e3,hx,hc,hu,hw,hw1,hl1,tm_fold',hL,tk4,hB1,hB2,hB3,hq4,hp4,barsOk,-getElem?_pos,List.getElem?_cons_zero,List.getElem?_cons_succ,List.getElem?_nil,app_old,app_ge,set_old,set_ge,set_at,take_app,take_app1,take_set,take_set1]) 0 [] (by omega) (by simp)
  simp at hlo
  clear ih
  have hm : ∀ (bars : List Nat) (a b' : Ob),RR TT HH bars n_term_Moved_1 [.agg [.i t.op,.i t.hd,.i t.n,.sl true []],.i b,.ptr q 0,.ptr p 0] (σ ++ [a,b']) = some (.ret (.agg [.i t.op,.i t.hd,.i (if t.op = 4 ∧ t.hd = 1 ∧ f + b ≤ t.n then t.n + -1 else t.n),.sl true []]),σ ++ [a,b']) := fun bars a b' => by
   rw [RR_open (by simp) (by simp),term_Moved_1_spec t.op t.hd t.n b f p q bars _ (by rw [app_old _ (by omega)]; exact hq) (by rw [app_old _ (by omega)]; exact hp) (fun h => (shape4 hsh h).2.2) h0 (by omega)]
  generalize (if t.op = 4 ∧ t.hd = 1 ∧ f + b ≤ t.n then t.n + -1 else t.n) = n' at *
  have hlo := hlo n'
  simp [ir_term_Map,hm,hlo,hL,e3,tk,tk4,hB1,hB2,hB3,hq4,hp4,hql,hpl,Tm.enc,barsOk,-getElem?_pos,List.getElem?_cons_zero,List.getElem?_cons_succ,List.getElem?_nil,app_old,app_ge,set_old,set_ge,set_at,take_app,take_app1,take_set,take_set1]
theorem term_Moved_spec (t : Tm) (h : t.ok) (d : Int) (hf : t.formed d = true) (hd : 0 ≤ d) (hn : t.nodes ≤ 4000) : runV TT HH [] n_term_Moved [t.enc,.i (-1),.i 0] [] = some (.ret (t.moved (-1) 0).enc,[]) := by
 rw [eq_term_Moved]
 have hc : ∀ a3 a0 : Ob,RR TT HH [0] n_term_Map [t.enc,.i 0,.fn (.func n_term_Moved_1) [.ptr 2 0,.ptr 1 0]] [a0,.var [.i (-1)],.var [.i 0],a3] = some (.ret (t.moved (-1) 0).enc,[a0,.var [.i (-1)],.var [.i 0],a3]) := fun a3 a0 => by
  rw [RR_open (by simp) (by simp),term_Map_spec 1 2 0 (by omega) t h 0 d [0] _ hf (by omega) (by omega) hn (by simp) rfl rfl]; rfl
 simp [ir_term_Moved,hc,tm_fold']
end Go.Ev


namespace Go.Ev
def idxI (l : List Int) (n : Int) (i : Int) : Int := match l with
 | [] => -1
 | a :: r => if n = a then i else idxI r n (i + 1)
theorem idxI_mem (l : List Int) (n : Int) : ∀ i : Int,0 ≤ i → decide (0 ≤ idxI l n i) = decide (n ∈ l) := by
 induction l with
 | nil => intro i h; simp [idxI]
 | cons a r ih =>
  intro i h
  unfold idxI
  by_cases ha : n = a
  ·simp [ha,h]
  ·simp only [ha,if_false,List.mem_cons,false_or]; exact ih (i + 1) (by omega)
theorem slices_Index_of_int_int_spec (l : List Int) (n : Int) (hl : l.length < 2 ^ 63) : runV TT HH [] n_slices_Index_of_int_int [.sl false (encL l),.i n] [] = some (.ret (.i (idxI l n 0)),[]) := by
 rw [eq_slices_Index_of_int_int]
 have hlo := LO_list (T := TT) (H := HH) (b := [0]) (A := ir_slices_Index_of_int_intL0) l
  (fun i (_ : Unit) => ([(0,.sl false (encL l)),(1,.i n),(7,.i l.length),(8,.i i)],[]))
  (fun r i _ => if n ∈ r then (.ret,[(4,.i (idxI r n i))],[]) else (.exit 0,[],[]))
  (fun _ _ => True)
  (fun _ _ => by
   rw [E_EK]
   simp [ir_slices_Index_of_int_intL0])
  (fun i x r _ hx hm hd hi _ => by
   have e1 : (i : Int) < l.length := by omega
   have hw : IntKind.i64.wrap ((i : Int) + 1) = (i : Int) + 1 := wrap_small _ (by omega) (by omega)
   rw [E_EK]
   by_cases h : n = x <;> simp [ir_slices_Index_of_int_intL0,e1,hx,hw,h,idxI]) 0 () (by omega) trivial
 simp at hlo
 by_cases h : n ∈ l
 ·simp [h] at hlo
  simp [ir_slices_Index_of_int_int,hl,hlo]
 ·simp [h] at hlo
  have h2 : idxI l n 0 = -1 := by
   have : ∀ (l : List Int) (i : Int),n ∉ l → idxI l n i = -1 := by
    intro l
    induction l with
    | nil => intro i _; rfl
    | cons a r ih =>
     intro i hn
     simp only [List.mem_cons,not_or] at hn
     rw [idxI,if_neg hn.1]; exact ih _ hn.2
   exact this l 0 h
  simp [ir_slices_Index_of_int_int,hl,hlo,h2]
theorem slices_Contains_of_int_int_spec (l : List Int) (n : Int) (hl : l.length < 2 ^ 63) : runV TT HH [] n_slices_Contains_of_int_int [.sl false (encL l),.i n] [] = some (.ret (.b (decide (n ∈ l))),[]) := by
 rw [eq_slices_Contains_of_int_int]
 have h1 := RR_of (slices_Index_of_int_int_spec l n hl) (by simp) (by simp)
 have h2 := idxI_mem l n 0 (by omega)
 simp [ir_slices_Contains_of_int_int,h1,h2,tm_fold',rw_fold',dc_fold']
 repeat' ((first | refine kG_split ?_ ?_ | refine kIf_split ?_ ?_ | refine bB_split ?_ ?_ | refine kO_split ?_ ?_ | refine kCl_split ?_ ?_) <;> intro h <;> (try simp only [decide_eq_true_eq,decide_eq_false_iff_not,Bool.not_eq_true] at h) <;> simp [h,ir_slices_Contains_of_int_int,h1,h2,tm_fold',rw_fold',dc_fold'])
def addk (l : List Int) (n : Int) : List Int := if n ∈ l then l else l ++ [n]
def ents (l : List Int) : List (Value × PV) := l.map fun n => (.int .i64 n,.b true)
theorem mput_ents (n : Int) : ∀ l,mput false (ents l) (.int .i64 n) (.b true) = some (ents (addk l n))
 | [] => by simp [ents,mput,keyEq,addk]
 | a :: r => by
  have ih := mput_ents n r
  by_cases h : a = n
  ·subst h; simp [ents,mput,keyEq,addk]
  ·have h' : ¬ n = a := fun e => h e.symm
   by_cases hr : n ∈ r
   ·simp only [addk,hr,if_true] at ih
    simp only [ents,List.map_cons,mput,keyEq,if_true,and_self,decide_eq_true_eq,h,decide_false] at ih ⊢
    rw [ih]
    simp [addk,h',hr]
   ·simp only [addk,hr,if_false] at ih
    simp only [ents,List.map_cons,mput,keyEq,if_true,and_self,decide_eq_true_eq,h,decide_false] at ih ⊢
    rw [ih]
    simp [addk,h',hr]
theorem keysI_en : ∀ l,keysI (ents l) = some l
 | [] => rfl
 | a :: r => by have ih := keysI_en r; simp only [ents,List.map_cons,keysI] at ih ⊢; rw [ih]; rfl
theorem addk_nodup {l : List Int} (n : Int) (h : l.Nodup) : (addk l n).Nodup := by
 unfold addk
 split
 ·exact h
 ·rename_i hn
  rw [List.nodup_append]
  exact ⟨h,by simp,fun a ha b hb => by simp at hb; subst hb; exact fun e => hn (e ▸ ha)⟩
theorem nodupI_of : ∀ l : List Int,l.Nodup → nodupI l = true
 | [],_ => rfl
 | a :: r,h => by
  rw [List.nodup_cons] at h
  simp only [nodupI,Bool.and_eq_true,Bool.not_eq_true',List.contains_eq_mem,decide_eq_false_iff_not]
  exact ⟨h.1,nodupI_of r h.2⟩
def kstep (l : List Int) (x : Tm × Int) : List Int := match hval 1 x with
 | some n => addk l n
 | none => l
theorem kfold (ns : List (Tm × Int)) : ∀ l,(ns.foldl kstep l).length ≤ l.length + ns.length ∧ (l.Nodup → (ns.foldl kstep l).Nodup) ∧ ∀ x,x ∈ ns.foldl kstep l ↔ x ∈ l ∨ ∃ y ∈ ns,hval 1 y = some x := by
 induction ns with
 | nil => intro l; simp
 | cons a r ih =>
  intro l
  obtain ⟨h1,h2,h3⟩ := ih (kstep l a)
  rw [List.foldl_cons]
  have hk : (kstep l a).length ≤ l.length + 1 ∧ (l.Nodup → (kstep l a).Nodup) ∧ ∀ x,x ∈ kstep l a ↔ x ∈ l ∨ hval 1 a = some x := by
   unfold kstep
   cases hv : hval 1 a with
   | none => simp
   | some n =>
    refine ⟨?_,addk_nodup n,fun x => ?_⟩
    ·simp only [addk]; split <;> simp
    ·simp only [addk]
     split
     ·rename_i hm
      simp only [Option.some.injEq]
      exact ⟨.inl,fun h => h.elim id (fun e => e ▸ hm)⟩
     ·simp only [List.mem_append,List.mem_singleton,Option.some.injEq]
      exact ⟨fun h => h.imp id Eq.symm,fun h => h.imp id Eq.symm⟩
  refine ⟨by simp; omega,fun h => h2 (hk.2.1 h),fun x => ?_⟩
  rw [h3,hk.2.2 x]
  simp only [List.mem_cons,exists_eq_or_imp,or_assoc]
theorem term_Free_1_spec (x : Tm) (k : Int) (h0 : 0 ≤ k) (h1 : k ≤ 100) (hn : 0 ≤ x.n) (hn1 : x.n ≤ 9999) : runV TT HH [] n_term_Free_1 [x.enc,.i k] [] = some (.ret (.tup [.i (x.n - k),.b (decide (x.hd = 1) && decide (k ≤ x.n))]),[]) := by
 rw [eq_term_Free_1]
 have hw : IntKind.i64.wrap (x.n - k) = x.n - k := wrap_small _ (by omega) (by omega)
 by_cases a : x.hd = 1 <;> simp [ir_term_Free_1,hw,a]
theorem eq_keys (bars : List Nat) (a0 : PV) (σ : Sto) : runV TT HH bars 188 [a0] σ = callF TT HH ir_188 bars [a0] σ := runV_fn (by decide) (by kernel_rfl) (by kernel_rfl) (by decide) (by decide) bars _ σ rfl
theorem keys_spec (bars : List Nat) (j : Nat) (σ : Sto) (hj : j < σ.length) : RR TT HH bars 188 [.map j] σ = some (.ret (.fn (.func 234) [.ptr σ.length 0]),σ ++ [.var [.map j]]) := by
 rw [RR_open (by simp) (by simp),eq_keys]
 simp [ir_188,hj]
theorem sorted_hook : HH 187 = some (sortedH 234) := by kernel_rfl
theorem sorted_spec (bars : List Nat) (id j : Nat) (σ : Sto) (l : List Int) (h1 : σ[id]? = some (.var [.map j])) (h2 : σ[j]? = some (.mp (ents l))) (hn : l.Nodup) (hf : ∀ x ∈ l,fitsI x = true) (hl : l.length ≤ LIM) :
  RR TT HH bars 187 [.fn (.func 234) [.ptr id 0]] σ = some (.ret (.sl false (encL (isort l))),σ) := by
 rw [RR_hook sorted_hook (by decide) (by simp) (by simp)]
 simp only [sortedH,if_true,h1,h2]
 rw [keysI_en]
 simp only [Option.bind_some,nodupI_of l hn,Bool.true_and]
 rw [if_pos]
 ·rfl
 ·simp only [Bool.and_eq_true,List.all_eq_true,decide_eq_true_eq]; exact ⟨hf,hl⟩
def NS (t : Tm) (l : List Int) : Sto := [.var (Enc.cells t),.var [.fn (.func n_term_Free_1) []],.mp (ents l),.var [.map 2]]
theorem term_numbers_1_spec (t x : Tm) (k : Int) (l : List Int) (bars : List Nat) (ext : Sto) (h0 : 0 ≤ k) (h1 : k ≤ 100) (hs : x.op = 4 → 0 ≤ x.n ∧ x.n ≤ 9999) :
  RR TT HH bars n_term_numbers_1 [x.enc,.i k,.ptr 1 0,.ptr 3 0] (NS t l ++ ext) = some (.ret (.tup []),NS t (kstep l (x,k)) ++ ext) := by
 rw [RR_open (by simp) (by simp),eq_term_numbers_1]
 obtain ⟨op,hd,n,args⟩ := x
 simp only [Tm.op_mk,Tm.n_mk] at hs
 by_cases a : op = 4
 ·obtain ⟨n0,n1⟩ := hs a
  have hc := RR_of (term_Free_1_spec (.mk op hd n args) k h0 h1 n0 n1) (by simp) (by simp)
  have hm := mput_ents (n - k) l
  subst a
  by_cases b : hd = 1
  ·subst b
   by_cases c : k ≤ n
   ·simp [NS,kstep,hval,c] at hc ⊢
    simp [ir_term_numbers_1,hc,tm_fold,hm]
   ·simp [NS,kstep,hval,c] at hc ⊢
    simp [ir_term_numbers_1,hc,tm_fold]
  ·simp [NS,kstep,hval,b] at hc ⊢
   simp [ir_term_numbers_1,hc,tm_fold]
 ·simp [NS,kstep,hval,a]
  simp [ir_term_numbers_1,a]
def freeK (t : Tm) : List Int := (t.nds 0).foldl kstep []
theorem term_numbers_spec (t : Tm) (h : t.ok) (hp : t.proper = true) : runV TT HH [] n_term_numbers [t.enc,.fn (.func n_term_Free_1) []] [] = some (.ret (.tup [.sl false (encL (isort (freeK t))),.i 0]),[]) := by
 rw [eq_term_numbers]
 have hf := proper_formed hp
 have hnd := proper_nodes hp
 have h1 := RR_of (term_Check_spec t h) (by simp) (by simp)
 rw [hp] at h1
 have hgood : ∀ y ∈ t.nds 0,(y.1.op = 4 → 0 ≤ y.1.n ∧ y.1.n ≤ 9999) ∧ 0 ≤ y.2 ∧ y.2 ≤ 100 := fun y hy => by
  have := formed_nd hf (by omega) hy
  exact ⟨fun h4 => (shape4 this.1 h4).2.2,this.2.1,by omega⟩
 have h2 : ∀ bars,RR TT HH bars n_term_Each [t.enc,.i 0,.fn (.func n_term_numbers_1) [.ptr 1 0,.ptr 3 0]] (NS t []) = some (.ret (.tup []),NS t (freeK t)) := fun bars => by
  rw [RR_open (by simp) (by simp)]
  have := term_Each_spec n_term_numbers_1 [.ptr 1 0,.ptr 3 0] (by simp) (by simp) (NS t) kstep 4 (fun _ => rfl) (fun n hn => by simp; omega) (fun y => (y.1.op = 4 → 0 ≤ y.1.n ∧ y.1.n ≤ 9999) ∧ 0 ≤ y.2 ∧ y.2 ≤ 100)
   (fun x k s bars ext hg => term_numbers_1_spec t x k s bars ext hg.2.1 hg.2.2 hg.1) t h 0 1 [] bars [] hf (by omega) (by omega) hgood
  simpa [freeK] using this
 obtain ⟨k1,k2,k3⟩ := kfold (t.nds 0) []
 rw [nds_len] at k1
 have h3 := fun bars (σ : Sto) => keys_spec bars 2 σ
 have h4 : ∀ bars,RR TT HH bars 187 [.fn (.func 234) [.ptr 4 0]] (NS t (freeK t) ++ [.var [.map 2]]) = some (.ret (.sl false (encL (isort (freeK t)))),NS t (freeK t) ++ [.var [.map 2]]) := fun bars =>
  sorted_spec bars 4 2 _ (freeK t) rfl rfl (k2 (by simp)) (fun x hx => by
   rcases (k3 x).1 hx with hx | ⟨y,hy,hv⟩
   ·cases hx
   ·have := hgood y hy
    unfold hval at hv
    split at hv
    ·rename_i hc
     have hn := this.1 hc.1
     split at hv
     ·rename_i hne; exact absurd rfl hne
     ·split at hv
      ·simp only [Option.some.injEq] at hv
       simp only [fitsI,decide_eq_true_eq]; omega
      ·cases hv
    ·cases hv) (by unfold freeK LIM; simp only [List.length_nil] at k1; omega)
 simp [NS] at h2 h4
 have h2' : ∀ bars,RR TT HH bars n_term_Each [t.enc,.i 0,.fn (.func n_term_numbers_1) [.ptr 1 0,.ptr 3 0]] [.var [.i t.op,.i t.hd,.i t.n,.sl false (encL t.args)],.var [.fn (.func n_term_Free_1) []],.mp [],.var [.map 2]] = some (.ret (.tup []),[.var [.i t.op,.i t.hd,.i t.n,.sl false (encL t.args)],.var [.fn (.func n_term_Free_1) []],.mp (ents (freeK t)),.var [.map 2]]) := h2
 simp [ir_term_numbers,h1,h2',h3,h4,tm_fold',barsOk]
theorem freeK_occ (t : Tm) : decide (0 ∈ isort (freeK t)) = occ t 0 := by
 obtain ⟨k1,k2,k3⟩ := kfold (t.nds 0) []
 rw [Bool.eq_iff_iff,decide_eq_true_eq,(isort_perm _).mem_iff]
 unfold freeK occ
 rw [k3 0,List.any_eq_true]
 simp only [List.not_mem_nil,false_or]
 refine exists_congr fun y => and_congr_right fun _ => ?_
 unfold hval isV
 simp only [Bool.and_eq_true,decide_eq_true_eq]
 constructor
 ·intro h
  split at h
  ·rename_i hc
   split at h
   ·rename_i hne; exact absurd rfl hne
   ·split at h
    ·simp only [Option.some.injEq] at h
     exact ⟨hc.1,hc.2,by omega⟩
    ·cases h
  ·cases h
 ·rintro ⟨a,b,c⟩
  rw [if_pos ⟨a,b⟩,if_neg (by simp),if_pos (by omega)]
  simp; omega
theorem term_Free_spec (t : Tm) (h : t.ok) (hp : t.proper = true) : runV TT HH [] n_term_Free [t.enc] [] = some (.ret (.tup [.sl false (encL (isort (freeK t))),.i 0]),[]) := by
 rw [eq_term_Free]
 have h1 := RR_of (term_numbers_spec t h hp) (by simp) (by simp)
 simp [ir_term_Free,h1,tm_fold',rw_fold',dc_fold']
 repeat' ((first | refine kG_split ?_ ?_ | refine kIf_split ?_ ?_ | refine bB_split ?_ ?_ | refine kO_split ?_ ?_ | refine kCl_split ?_ ?_) <;> intro h <;> (try simp only [decide_eq_true_eq,decide_eq_false_iff_not,Bool.not_eq_true] at h) <;> simp [h,ir_term_Free,h1,tm_fold',rw_fold',dc_fold'])
theorem term_Occurs_spec (t : Tm) (h : t.ok) (hp : t.proper = true) : runV TT HH [] n_term_Occurs [t.enc,.i 0] [] = some (.ret (.tup [.b (occ t 0),.i 0]),[]) := by
 rw [eq_term_Occurs]
 have h1 := RR_of (term_Free_spec t h hp) (by simp) (by simp)
 have hl : (isort (freeK t)).length < 2 ^ 63 := by
  have k1 := (kfold (t.nds 0) []).1
  rw [nds_len,List.length_nil] at k1
  rw [(isort_perm _).length_eq]; have := proper_nodes hp; unfold freeK; omega
 have h2 := RR_of (slices_Contains_of_int_int_spec (isort (freeK t)) 0 hl) (by simp) (by simp)
 have h3 := freeK_occ t
 simp [ir_term_Occurs,h1,h2,h3,tm_fold',rw_fold',dc_fold']
 repeat' ((first | refine kG_split ?_ ?_ | refine kIf_split ?_ ?_ | refine bB_split ?_ ?_ | refine kO_split ?_ ?_ | refine kCl_split ?_ ?_) <;> intro h <;> (try simp only [decide_eq_true_eq,decide_eq_false_iff_not,Bool.not_eq_true] at h) <;> simp [h,ir_term_Occurs,h1,h2,h3,tm_fold',rw_fold',dc_fold'])
end Go.Ev


namespace Go.Ev
theorem and_fold {α : Type} (p : α → Bool) (l : List α) : ∀ b,l.foldl (fun b y => b && p y) b = (b && l.all p) := by
 induction l with
 | nil => intro b; simp
 | cons a r ih => intro b; rw [List.foldl_cons,ih,List.all_cons,Bool.and_assoc]
def FS (before : List Dc) (d : Dc) (c : List PV) (b : Bool) : Sto := [.var [.sl false (encL before)],.var (Enc.cells d),.var c,.var [.b b]]
theorem sign_formed_1_spec (before : List Dc) (d : Dc) (c : List PV) (x : Tm) (k : Int) (b : Bool) (bars : List Nat) (ext : Sto) (hl : before.length < 2 ^ 63) :
  RR TT HH bars n_sign_formed_1 [x.enc,.i k,.ptr 3 0,.ptr 0 0] (FS before d c b ++ ext) = some (.ret (.tup []),FS before d c (b && clN before.length (x,k)) ++ ext) := by
 rw [RR_open (by simp) (by simp),eq_sign_formed_1]
 obtain ⟨op,hd,n,args⟩ := x
 simp only [clN,Tm.op_mk,Tm.hd_mk,Tm.n_mk]
 by_cases a : op = 4
 ·by_cases h3 : hd = 3
  ·cases b <;> simp [ir_sign_formed_1,FS,a,h3,hl]
  ·by_cases h1 : hd = 1
   ·subst h1
    by_cases hn : n < k <;> cases b <;> simp [ir_sign_formed_1,FS,a,hn,hl]
   ·by_cases h2 : hd = 2
    ·subst h2
     by_cases hn : n < before.length <;> cases b <;> simp [ir_sign_formed_1,FS,a,hn,hl]
    ·cases b <;> simp [ir_sign_formed_1,FS,a,h1,h2,h3,hl]
 ·simp [ir_sign_formed_1,FS,a]
theorem famAt_get {sig : List Dc} {n : Int} (h0 : 0 ≤ n) (h1 : n < sig.length) : ∃ x ∈ sig,sig[n.toNat]? = some x ∧ famAt sig n = decide ((Tm.core 40 x.class_).op = 1) := by
 obtain ⟨x,hx,hm,-⟩ := get_some (l := sig) (i := n.toNat) (by omega)
 exact ⟨x,hm,hx,by unfold famAt; rw [hx]⟩
theorem sign_formed_spec (before : List Dc) (d : Dc) (hl : before.length ≤ 1000) (hb : ∀ x ∈ before,x.class_.formed 1 = true) (hd : d.ok) : runV TT HH [] n_sign_formed [.sl false (encL before),d.enc] [] = some (.ret (.b (okD before d)),[]) := by
 rw [eq_sign_formed]
 have hns : d.name.size < 2 ^ 63 := ml hd.1
 have h1 := RR_of (term_Check_spec d.class_ hd.2.1) (by simp) (by simp)
 have h2 := RR_of (sign_name_spec d.name hns) (by simp) (by simp)
 have hbl : before.length < 2 ^ 63 := by omega
 unfold okD
 by_cases hp : d.class_.proper = true
 rotate_left
 ·simp only [Bool.not_eq_true] at hp
  rw [hp] at h1
  simp [ir_sign_formed,h1,hp,tm_fold']
 rw [hp] at h1
 by_cases hc : isCon d.name = true
 rotate_left
 ·simp only [Bool.not_eq_true] at hc
  rw [hc] at h2
  simp [ir_sign_formed,h1,h2,hp,hc,tm_fold']
 rw [hc] at h2
 by_cases hi : d.imp < 0
 ·have hi' : ¬ 0 ≤ d.imp := by omega
  simp [ir_sign_formed,h1,h2,hp,hc,hi,hi',tm_fold']
 have hi' : 0 ≤ d.imp := by omega
 have hf := proper_formed hp
 have h3 := RR_of (term_Domains_spec d.class_ hf) (by simp) (by simp)
 have h4 := RR_of (sign_kind_spec d.class_ hf) (by simp) (by simp)
 have h5 := RR_of (sign_target_spec d.class_ hf) (by simp) (by simp)
 have hdl : (Tm.doms 40 d.class_).length < 2 ^ 63 := by have := doms_len 40 d.class_; omega
 have h6 : ∀ bars cs b,RR TT HH bars n_term_Each [d.class_.enc,.i 0,.fn (.func n_sign_formed_1) [.ptr 3 0,.ptr 0 0]] (FS before d cs b) = some (.ret (.tup []),FS before d cs (b && clT d.class_ before.length)) := fun bars cs b => by
  rw [RR_open (by simp) (by simp)]
  have := term_Each_spec n_sign_formed_1 [.ptr 3 0,.ptr 0 0] (by simp) (by simp) (FS before d cs) (fun b y => b && clN before.length y) 4 (fun _ => rfl) (fun n hn => by simp; omega) (fun _ => True)
   (fun x k s bars ext _ => sign_formed_1_spec before d _ x k s bars ext hbl) d.class_ hd.2.1 0 1 b bars [] hf (by omega) (by omega) (fun _ _ => trivial)
  rw [and_fold] at this
  simpa [clT] using this
 simp only [FS,dc_cells] at h6
 simp only [hp,hc,hi',decide_true,Bool.true_and]
 obtain ⟨k,hk⟩ := core_mem 40 d.class_ 0
 have hsh := (formed_nd hf (by omega) hk).1
 have hcl : clT d.class_ before.length = true → clN before.length (Tm.core 40 d.class_,k) = true := fun h => List.all_eq_true.1 h _ hk
 have hne := core_ne2 40 d.class_ 1 hf (by omega)
 generalize Tm.core 40 d.class_ = c at *
 generalize clT d.class_ before.length = cl at *
 by_cases o1 : c.op = 1
 ·simp [tgt,o1] at h4 ⊢
  simp [ir_sign_formed,h1,h2,h3,h4,h6,hp,hc,hi,hdl,tm_fold',barsOk,o1]
 by_cases o4 : c.op = 4 ∧ c.hd = 2
 ·obtain ⟨o4,o5⟩ := o4
  simp [o4,o5] at h5
  simp [o1] at h4
  cases hcl' : cl with
  | false =>
   simp [ir_sign_formed,h1,h2,h3,h4,h5,h6,hp,hc,hi,hdl,tm_fold',barsOk,hcl']
  | true =>
   have hcl := hcl hcl'
   simp [clN,o4,o5] at hcl
   obtain ⟨_,_,n0,_⟩ := shape4 hsh o4
   obtain ⟨x,hxm,hx,hfam⟩ := famAt_get n0 hcl
   have h7 := RR_of (sign_kind_spec x.class_ (hb x hxm)) (by simp) (by simp)
   rw [← hfam] at h7
   by_cases hil : d.imp ≤ (Tm.doms 40 d.class_).length
   ·simp [ir_sign_formed,h1,h2,h3,h4,h5,h6,hp,hc,hi,hdl,tm_fold',barsOk,hcl',tgt,o4,o5,hil,n0,hx,h7]
   ·simp [ir_sign_formed,h1,h2,h3,h4,h5,h6,hp,hc,hi,hdl,tm_fold',barsOk,hcl',hil]
 ·have ht : tgt before c = false := by
   simp only [tgt,o1,decide_false,Bool.false_or,Bool.and_eq_false_iff,decide_eq_false_iff_not]
   by_cases o5 : c.op = 4
   ·exact .inr (.inl fun h => o4 ⟨o5,h⟩)
   ·exact .inl o5
  have hq : (decide (c.op = 4) && decide (c.hd = 2)) = false := by
   simp only [Bool.and_eq_false_iff,decide_eq_false_iff_not]
   by_cases o5 : c.op = 4
   ·exact .inr fun h => o4 ⟨o5,h⟩
   ·exact .inl o5
  rw [hq] at h5
  simp [o1] at h4
  rw [ht]
  cases hcl' : decide (d.imp ≤ (Tm.doms 40 d.class_).length) && cl <;> simp [ir_sign_formed,h1,h2,h3,h4,h5,h6,hp,hc,hi,hdl,tm_fold',barsOk,hcl']
end Go.Ev


namespace Go.Ev
theorem ref05_closed_spec (t : Tm) (h : t.ok) (m : Int) (hp : t.proper = true) : runV TT HH [] n_ref05_closed [t.enc,.i m] [] = some (.ret (.b (clT t m)),[]) := by
 rw [eq_ref05_closed,clT_heads]
 have hf := proper_formed hp
 have hn := proper_nodes hp
 have h1 := RR_of (ref03_Free_spec t h 1 hf (by omega) (by omega)) (by simp) (by simp)
 have h2 := RR_of (ref03_Constants_spec t h 1 hf (by omega) (by omega)) (by simp) (by simp)
 have h3 := RR_of (ref03_Metas_spec t h 1 hf (by omega) (by omega)) (by simp) (by simp)
 have l1 := heads_len 1 (t.nds 0) []
 have l2 := heads_len 2 (t.nds 0) []
 have l3 := heads_len 3 (t.nds 0) []
 rw [nds_len,List.length_nil] at l1 l2 l3
 generalize heads 1 (t.nds 0) [] = a1 at *
 generalize heads 2 (t.nds 0) [] = a2 at *
 generalize heads 3 (t.nds 0) [] = a3 at *
 have m1 : a1.length < 2 ^ 63 := by omega
 have m2 : a2.length < 2 ^ 63 := by omega
 have m3 : a3.length < 2 ^ 63 := by omega
 by_cases e1 : a1 = []
 rotate_left
 ·have : ¬ (a1.length : Int) = 0 := by cases a1 <;> simp at e1 ⊢; omega
  simp [ir_ref05_closed,h1,h2,h3,m1,m2,m3,e1,this,tm_fold']
 by_cases e3 : a3 = []
 rotate_left
 ·have : ¬ (a3.length : Int) = 0 := by cases a3 <;> simp at e3 ⊢; omega
  simp [ir_ref05_closed,h1,h2,h3,m1,m2,m3,e1,e3,this,tm_fold']
 rcases List.eq_nil_or_concat a2 with e2 | ⟨l,x,e2⟩
 ·subst e1; subst e2; subst e3
  simp at h1 h2 h3
  simp [ir_ref05_closed,h1,h2,h3,tm_fold',lastLt]
 ·rw [List.concat_eq_append] at e2
  subst e1; subst e2; subst e3
  simp at h1 h2 h3 m2
  have hw : IntKind.i64.wrap ((l.length : Int) + 1 - 1) = l.length := by rw [wrap_small _ (by omega) (by omega)]; omega
  have hw' : IntKind.i64.wrap (l.length : Int) = l.length := wrap_small _ (by omega) (by omega)
  have hne : ¬ (l.length : Int) + 1 = 0 := by omega
  have hg : ∀ h,(encL (l ++ [x]))[l.length]'h = [PV.i x] := fun h => by simp [encL]
  simp [ir_ref05_closed,h1,h2,h3,m2,hw,hw',hne,tm_fold',lastLt,hg]
def dup (sig : List Dc) (s : ByteArray) : Bool := sig.any fun x => decide (x.name = s)
theorem ref05_formed_spec (before : List Dc) (d : Dc) (hl : before.length ≤ 1000) (hb : ∀ x ∈ before,x.class_.formed 1 = true) (hd : d.ok) : runV TT HH [] n_ref05_formed [.sl false (encL before),d.enc] [] = some (.ret (.b (okD before d && !dup before d.name)),[]) := by
 rw [eq_ref05_formed]
 have hns : d.name.size < 2 ^ 63 := ml hd.1
 have hbl : before.length < 2 ^ 63 := by omega
 have h1 := RR_of (ref05_IsName_spec d.name hns) (by simp) (by simp)
 have h2 := RR_of (ref03_Proper_spec d.class_ hd.2.1) (by simp) (by simp)
 unfold okD
 by_cases hc : isCon d.name = true
 rotate_left
 ·simp only [Bool.not_eq_true] at hc
  rw [hc] at h1
  simp [ir_ref05_formed,h1,hc,tm_fold']
 rw [hc] at h1
 by_cases hp : d.class_.proper = true
 rotate_left
 ·simp only [Bool.not_eq_true] at hp
  rw [hp] at h2
  simp [ir_ref05_formed,h1,h2,hc,hp,tm_fold']
 have h3 := RR_of (ref05_closed_spec d.class_ hd.2.1 before.length hp) (by simp) (by simp)
 rw [hp] at h2
 by_cases hcl' : clT d.class_ before.length = true
 rotate_left
 ·simp only [Bool.not_eq_true] at hcl'
  rw [hcl'] at h3
  simp [ir_ref05_formed,h1,h2,h3,hc,hp,hbl,hcl',tm_fold']
 have hlo := LO_list (T := TT) (H := HH) (b := [0]) (A := ir_ref05_formedL0) before
  (fun i (_ : Unit) => ([(0,.sl false (encL before)),(3,.ptr 0 0),(27,.sl false (encL before)),(28,.i before.length),(29,.i i)],[.var (Enc.cells d)]))
  (fun r i _ => if dup r d.name then (.ret,[(4,.b false)],[.var (Enc.cells d)]) else (.exit 0,[(0,.sl false (encL before)),(3,.ptr 0 0)],[.var (Enc.cells d)]))
  (fun _ _ => True)
  (fun _ _ => by
   rw [E_EK]
   simp [ir_ref05_formedL0,dup])
  (fun i x r _ hx hm hdr hi _ => by
   have e1 : (i : Int) < before.length := by omega
   have hw : IntKind.i64.wrap ((i : Int) + 1) = (i : Int) + 1 := wrap_small _ (by omega) (by omega)
   rw [E_EK]
   by_cases h : x.name = d.name <;> simp [-List.any_eq_true,ir_ref05_formedL0,e1,hx,hw,h,dup]) 0 () (by omega) trivial
 simp only [List.drop_zero] at hlo
 have hf := proper_formed hp
 have h4 := RR_of (ref03_Split_spec d.class_ hf) (by simp) (by simp)
 have hdl : (Tm.doms 40 d.class_).length < 2 ^ 63 := by have := doms_len 40 d.class_; omega
 simp only [hp,hc,hcl',Bool.true_and,Bool.and_true]
 rw [hcl'] at h3
 obtain ⟨k,hk⟩ := core_mem 40 d.class_ 0
 have hsh := (formed_nd hf (by omega) hk).1
 have hcl := List.all_eq_true.1 (show (d.class_.nds 0).all (clN before.length) = true from hcl') _ hk
 have hne := core_ne2 40 d.class_ 1 hf (by omega)
 generalize Tm.core 40 d.class_ = c at *
 cases hdp : dup before d.name with
 | true =>
  simp [hdp] at hlo
  simp [ir_ref05_formed,h1,h2,h3,hbl,hlo,tm_fold']
 | false =>
  simp [hdp] at hlo
  by_cases o1 : c.op = 1
  ·by_cases hi : 0 ≤ d.imp
   ·simp [ir_ref05_formed,h1,h2,h3,h4,hbl,hlo,hdl,tm_fold',o1,tgt,hi]
   ·simp [ir_ref05_formed,h1,h2,h3,h4,hbl,hlo,hdl,tm_fold',o1,tgt,hi]
  by_cases o4 : c.op = 4
  ·by_cases o5 : c.hd = 2
   ·simp [clN,o4,o5] at hcl
    obtain ⟨_,_,n0,_⟩ := shape4 hsh o4
    obtain ⟨x,hxm,hx,hfam⟩ := famAt_get n0 hcl
    have h7 := RR_of (ref05_family_spec before c.n x n0 hx (hb x hxm)) (by simp) (by simp)
    cases hfa : famAt before c.n with
    | true =>
     rw [hfa] at h7
     by_cases hi : 0 ≤ d.imp
     ·simp [ir_ref05_formed,h1,h2,h3,h4,h7,hbl,hlo,hdl,tm_fold',o4,o5,tgt,hi,hfa]
     ·simp [ir_ref05_formed,h1,h2,h3,h4,h7,hbl,hlo,hdl,tm_fold',o4,o5,tgt,hi,hfa]
    | false =>
     rw [hfa] at h7
     simp [ir_ref05_formed,h1,h2,h3,h4,h7,hbl,hlo,hdl,tm_fold',o4,o5,tgt,hfa]
   ·simp [ir_ref05_formed,h1,h2,h3,h4,hbl,hlo,hdl,tm_fold',o4,o5,tgt]
  ·simp [ir_ref05_formed,h1,h2,h3,h4,hbl,hlo,hdl,tm_fold',o1,o4,tgt]
theorem ref05_Formed_spec (sig : List Dc) (hl : sig.length ≤ maxLen) (hs : ∀ d ∈ sig,d.ok) : runV TT HH [] n_ref05_Formed [.sl false (encL sig)] [] = some (.ret (.b (sigOK sig)),[]) := by
 rw [eq_ref05_Formed]
 have hl' := ml hl
 by_cases h100 : sig.length ≤ 100
 ·have hlo := LO_list (T := TT) (H := HH) (b := [0]) (A := ir_ref05_FormedL0) sig
   (fun i (_ : Unit) => ([(0,.sl false (encL sig)),(3,.i i)],[]))
   (fun r i _ => if sgF (sig.take i) r then (.exit 0,[(0,.sl false (encL sig))],[]) else (.ret,[(2,.b false)],[]))
   (fun i _ => ∀ x ∈ sig.take i,x.class_.formed 1 = true)
   (fun _ _ => by
    rw [E_EK]
    simp [ir_ref05_FormedL0,sgF,hl'])
   (fun i x r _ hx hm hdr hi hv => by
    have e1 : (i : Int) < sig.length := by omega
    have e2 : (i : Int) ≤ sig.length := by omega
    have e3 : i ≤ sig.length := by omega
    have h100' : (sig.length : Int) ≤ 100 := by omega
    have hw : IntKind.i64.wrap ((i : Int) + 1) = (i : Int) + 1 := wrap_small _ (by omega) (by omega)
    have hc := RR_of (ref05_formed_spec (sig.take i) x (by simp; omega) hv (hs x hm)) (by simp) (by simp)
    have htk : sig.take (i + 1) = sig.take i ++ [x] := by rw [List.take_add_one,hx]; rfl
    have hdu : dup (sig.take i) x.name = (sig.take i).any fun y => decide (y.name = x.name) := rfl
    cases hk : okD (sig.take i) x && !dup (sig.take i) x.name with
    | true =>
     rw [hk] at hc
     refine .inr ⟨(),?_,?_,?_⟩
     ·rw [E_EK]
      simp [ir_ref05_FormedL0,e1,e2,e3,hx,hw,hl',h100,h100',hc,dc_fold']
     ·rw [htk]
      intro y hy
      rcases List.mem_append.1 hy with hy | hy
      ·exact hv y hy
      ·rw [List.mem_singleton] at hy
       subst hy
       simp only [Bool.and_eq_true] at hk
       have := hk.1
       simp only [okD,Bool.and_eq_true] at this
       exact proper_formed this.1.1.1.1.1
     ·rw [htk,sgF,← hdu,hk,Bool.true_and]
    | false =>
     rw [hk] at hc
     refine .inl ⟨?_,?_⟩
     ·rw [E_EK,sgF,← hdu,hk]
      simp [ir_ref05_FormedL0,e1,e2,e3,hx,hw,hl',h100,h100',hc,dc_fold']
     ·rw [sgF,← hdu,hk]; simp) 0 () (by omega) (by simp)
  simp at hlo
  unfold sigOK
  cases hk : sgF [] sig <;> simp [hk] at hlo <;> (have h100' : (sig.length : Int) ≤ 100 := by omega) <;> simp [ir_ref05_Formed,hlo,hl',h100,h100']
 ·have hlo : LO TT HH [0] ir_ref05_FormedL0 ([(0,.sl false (encL sig)),(3,.i 0)],[]) = some (.exit 0,[(0,.sl false (encL sig))],[]) := by
   rw [LO_eq,E_EK]
   have : ¬ (sig.length : Int) ≤ 100 := by omega
   have h0 : 0 < sig.length := by omega
   simp [ir_ref05_FormedL0,hl',this,h0,h100]
  unfold sigOK
  have h100' : ¬ (sig.length : Int) ≤ 100 := by omega
  simp [ir_ref05_Formed,hlo,hl',h100,h100']
end Go.Ev
