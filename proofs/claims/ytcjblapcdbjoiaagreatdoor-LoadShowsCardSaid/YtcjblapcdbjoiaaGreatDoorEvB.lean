/- Operations on memory, further: stores, addresses, lengths. -/
import Derived.Test.YtcjblapcdbjoiaaGreatDoorEvA
import Derived.Laws.Tables
import Derived.Deep.AppendSrc
set_option linter.unnecessarySimpa false
set_option linter.unusedVariables false
set_option linter.unusedSimpArgs false
set_option linter.unusedSectionVars false
namespace Go.Ev
variable [CodeRel]
theorem setRow_size (w : World) (g : Nat) (cs : Array Value) : (w.setRow g cs).heap.size = w.heap.size := by
 simp [World.setRow]
theorem run_storeVar {P : Program} {w : World} {t : TypeId} {i : TypeInfo} {x : Value} {b o : Nat} {c : Array Value} {T : TypeId} (hti : P.info? t = some i) (hs : x.cells.size = i.size)
  (hc : w.heap[b]? = some (.cells c T (0,0))) (hle : o + x.cells.size ≤ c.size) (h1 : ∀ v ∈ x.cells.toList,v.oneCell' = true) :
  (storeVar t ⟨b,o,none⟩ x).run P w = .ok () (w.setRow b (c.toList.take o ++ x.cells.toList ++ c.toList.drop (o + x.cells.size)).toArray) := by
 have h := run_storeCells_at (P := P) b o T x.cells.toList 0 c w hc (by simpa using hle) h1
 simp [storeVar,sizeOf,typeInfo,hti,hs]
 simpa [hs] using h
theorem putAt_some {cs : List PV} {off : Nat} {xs r : List PV} (h : putAt cs off xs = some r) : off + xs.length ≤ cs.length ∧ r = cs.take off ++ xs ++ cs.drop (off + xs.length) := by
 unfold putAt at h
 split at h
 ·cases h; exact ⟨by assumption,rfl⟩
 ·cases h
theorem RelL.put {κ : Kn} {cs xs : List PV} {c us : List Value} {off : Nat} (h : RelL κ cs c) (hx : RelL κ xs us) : RelL κ (cs.take off ++ xs ++ cs.drop (off + xs.length)) (c.take off ++ us ++ c.drop (off + us.length)) := by
 have := hx.length
 rw [← this]
 exact RelL.append (RelL.append (RelL.take _ h) hx) (RelL.drop _ h)
theorem norm_okc {p : PV} (h : okc p = true) : okc (norm p) = true := by
 cases p <;> simp_all [okc,norm]
theorem norm_sl {κ : Kn} {t : Bool} {es : List (List PV)} {x : Value} (h : RelV κ (.sl t es) x) : RelV κ (.sl false es) x := by
 obtain ⟨a,cap,esz,h1,h2,h3,h4⟩ := h
 exact ⟨a,cap,esz,h1,h2,by simp,h4⟩
theorem norm_ow {κ : Kn} {id n : Nat} {es : List (List PV)} {x : Value} (h : RelV κ (.ow id n es) x) : RelV κ (.sl false es) x := by
 obtain ⟨_,a,cap,esz,h1,h2,h3,_⟩ := h
 exact ⟨a,cap,esz,h1,h2,by simp,h3⟩
mutual
theorem RelV.norm {κ : Kn} : ∀ (p : PV) (x : Value),RelV κ p x → RelV κ (norm p) x
 | .k v,x,h => h
 | .ptr _ _,x,h => h
 | .pa _ _ _ _,x,h => h
 | .pe _ _,x,h => h
 | .sl t es,x,h => norm_sl h
 | .ow id n es,x,h => norm_ow h
 | .rs _ _ _ _,x,h => h
 | .agg cs,x,h => by
  obtain ⟨vs,h1,h2,h3⟩ := h
  exact ⟨vs,h1,RelL.norm cs _ h2,h3⟩
 | .tup cs,x,h => by
  obtain ⟨vs,h1,h2⟩ := h
  exact ⟨vs,h1,RelL.norm cs _ h2⟩
 | .fn _ _,x,h => h
 | .map _,x,h => h
 | .yld _,x,h => h
 | .bm _ _,x,h => h
 | .iface t v,x,h => by
  obtain ⟨y,h1,h2⟩ := h
  exact ⟨y,h1,RelV.norm v y h2⟩
theorem RelL.norm {κ : Kn} : ∀ (l : List PV) (x : List Value),RelL κ l x → RelL κ (norm.normAll l) x
 | [],x,h => h
 | p :: r,x,h => by
  simp only [RelL] at h
  obtain ⟨u,l',h1,h2,h3⟩ := h
  exact ⟨u,l',h1,RelV.norm p u h2,RelL.norm r l' h3⟩
end
mutual
theorem below_norm {n : Nat} : ∀ (p : PV),below n p = true → below n (norm p) = true
 | .k v,h => rfl
 | .ptr _ _,h => h
 | .pa _ _ _ _,h => h
 | .pe _ _,h => h
 | .sl t es,h => h
 | .ow id m es,h => by simp only [below,Bool.and_eq_true] at h; exact h.2
 | .rs _ _ _ _,h => h
 | .agg cs,h => by simp only [below,Ev.norm] at *; exact belowAll_norm cs h
 | .tup cs,h => by simp only [below,Ev.norm] at *; exact belowAll_norm cs h
 | .fn _ _,h => h
 | .map _,h => h
 | .yld _,h => h
 | .bm _ _,h => h
 | .iface t v,h => by simp only [below,Ev.norm] at *; exact below_norm v h
theorem belowAll_norm {n : Nat} : ∀ (l : List PV),below.belowAll n l = true → below.belowAll n (norm.normAll l) = true
 | [],h => rfl
 | p :: r,h => by simp only [below.belowAll,norm.normAll,Bool.and_eq_true] at *; exact ⟨below_norm p h.1,belowAll_norm r h.2⟩
end
theorem below_cells' {n : Nat} {p : PV} (h : below n p = true) : below.belowAll n (cells p) = true := by
 cases p <;> first | (simp only [cells,below,below.belowAll,Bool.and_true] at *; exact h) | (simp [cells,below.belowAll]; exact h)
theorem barsOk_spec : ∀ {bars : List Nat} {id : Nat} {x : PV},barsOk bars id x = true → ∀ n ∈ bars,id < n → below n x = true
 | b :: r,id,x,h,n,hn,hlt => by
  simp only [barsOk,Bool.and_eq_true,Bool.or_eq_true,decide_eq_true_eq] at h
  cases hn with
  | head => rcases h.1 with h1 | h1
            ·omega
            ·exact h1
  | tail _ hn => exact barsOk_spec h.2 n hn hlt
theorem sto_set_get {σ : Sto} {id : Nat} {ob : Ob} (h : id < σ.length) : (σ.set id ob)[id]? = some ob := by simp [List.getElem?_set,h]
theorem sto_set_other {σ : Sto} {id j : Nat} {ob : Ob} (h : j ≠ id) : (σ.set id ob)[j]? = σ[j]? := by simp [List.getElem?_set,Ne.symm h]
theorem cells_size {κ : Kn} {p : PV} {x : Value} (h : RelV κ p x) (ho : okc p = true) : (cells p).length = x.cells.size := by
 have := (h.cells ho).1.length
 simpa using this
theorem allLen_spec {k : Nat} : ∀ {es : List (List PV)},allLen k es = true → ∀ e ∈ es,e.length = k
 | [],_,e,he => by cases he
 | x :: r,h,e,he => by
  simp only [allLen,Bool.and_eq_true,decide_eq_true_eq] at h
  cases he with
  | head => exact h.1
  | tail _ he => exact allLen_spec h.2 e he
theorem flat_len {α : Type} {k : Nat} : ∀ {es : List (List α)},(∀ e ∈ es,e.length = k) → es.flatten.length = es.length * k
 | [],_ => by simp
 | x :: r,h => by
  rw [List.flatten_cons,List.length_append,flat_len fun e he => h e (by simp [he]),h x (by simp),List.length_cons,Nat.succ_mul]
  omega
theorem flat_take {α : Type} {k : Nat} : ∀ {es : List (List α)} (n : Nat),(∀ e ∈ es,e.length = k) → (es.take n).flatten = es.flatten.take (n * k)
 | [],n,_ => by simp
 | x :: r,0,h => by simp
 | x :: r,n + 1,h => by
  have hx := h x (by simp)
  rw [List.take_succ_cons,List.flatten_cons,List.flatten_cons,flat_take n fun e he => h e (by simp [he]),List.take_append,List.take_of_length_le (l := x) (by rw [hx,Nat.succ_mul]; omega)]
  congr 2
  rw [hx,Nat.succ_mul]; omega
theorem flat_drop {α : Type} {k : Nat} : ∀ {es : List (List α)} (n : Nat),(∀ e ∈ es,e.length = k) → (es.drop n).flatten = es.flatten.drop (n * k)
 | [],n,_ => by simp
 | x :: r,0,h => by simp
 | x :: r,n + 1,h => by
  have hx := h x (by simp)
  rw [List.drop_succ_cons,List.flatten_cons,flat_drop n fun e he => h e (by simp [he]),List.drop_append,List.drop_eq_nil_of_le (as := x) (by rw [hx,Nat.succ_mul]; omega)]
  simp only [List.nil_append]
  congr 1
  rw [hx,Nat.succ_mul]; omega
theorem flat_set {α : Type} {k : Nat} : ∀ {es : List (List α)} {j : Nat} {e e' : List α},(∀ e ∈ es,e.length = k) → es[j]? = some e → ∀ {off : Nat} {xs : List α},off + xs.length ≤ k → e' = e.take off ++ xs ++ e.drop (off + xs.length) →
  (es.set j e').flatten = es.flatten.take (j * k + off) ++ xs ++ es.flatten.drop (j * k + off + xs.length)
 | [],j,e,e',_,hj,_,_,_,_ => by simp at hj
 | x :: r,0,e,e',h,hj,off,xs,hle,he => by
  simp at hj; subst hj; subst he
  have hx := h x (by simp)
  simp only [List.set_cons_zero,List.flatten_cons,Nat.zero_mul,Nat.zero_add]
  rw [List.take_append_of_le_length (by omega),List.drop_append_of_le_length (by omega)]
  simp [List.append_assoc]
 | x :: r,j + 1,e,e',h,hj,off,xs,hle,he => by
  have hx := h x (by simp)
  simp only [List.getElem?_cons_succ] at hj
  rw [List.set_cons_succ,List.flatten_cons,List.flatten_cons,flat_set (fun e he => h e (by simp [he])) hj hle he]
  rw [List.take_append,List.take_of_length_le (l := x) (by rw [hx,Nat.succ_mul]; omega),List.drop_append,List.drop_eq_nil_of_le (as := x) (by rw [hx,Nat.succ_mul]; omega)]
  have e1 : (j + 1) * k + off - x.length = j * k + off := by rw [hx,Nat.succ_mul]; omega
  have e2 : (j + 1) * k + off + xs.length - x.length = j * k + off + xs.length := by rw [hx,Nat.succ_mul]; omega
  rw [e1,e2]
  simp [List.append_assoc]
section
variable {P : Program} {bars : List Nat} {κ : Kn} {σ : Sto} {w : World} {env : Env} {a : Act} {o : Oper} {r : OpR}
theorem INV.row {w : World} (hi : INV bars κ σ w) {id b : Nat} {c c' : Array Value} {T : TypeId} {ob : Ob} (hlt : id < σ.length) (hown : own κ σ id = some b) (hc : w.heap[b]? = some (.cells c T (0,0))) (hsz : c'.size = c.size)
  (hblk : blkOf κ id ob = some b) (hob : obRel κ (w.setRow b c') id ob) (hM : ∀ o v,κ.M b o = some v → c'[o]? = c[o]?) (hwf : obBelow σ.length ob = true) (hwfb : ∀ n ∈ bars,id < n → obBelow n ob = true) :
  INV bars κ (σ.set id ob) (w.setRow b c') ∧ Kept σ.length κ σ w κ (σ.set id ob) (w.setRow b c') := by
 refine INV.one hi id ob (by omega) (by simp; omega) (sto_set_get hlt) (fun j hj => sto_set_other hj) (Ext.refl _ _) (fun _ _ _ => rfl) (by rw [setRow_size]; exact Nat.le_refl _)
  (fun b' hb' hno => setRow_other _ _ _ _ (fun e => hno (by rw [hown,e]))) (fun _ _ _ _ => rfl) hob (fun b' hb' => by rw [hblk] at hb'; cases hb'; exact .inl hown) (fun b' o v hm => ?_) (fun b' hcap => ?_) (by simpa using hwf) hwfb rfl rfl rfl
 ·by_cases hbb : b' = b
  ·subst hbb
   rw [cell_setRow_same w b' o c c' T (0,0) hc,hM o v hm]
   have := hi.mem _ _ _ hm
   rwa [cell_of_row hc] at this
  ·rw [cell_setRow_other _ _ _ _ (by simpa using hbb)]; exact hi.mem _ _ _ hm
 ·obtain ⟨d,T',fr,hd,hsz'⟩ := hi.cap b' hcap
  by_cases hbb : b' = b
  ·subst hbb
   rw [hc] at hd; cases hd
   exact ⟨c',T,(0,0),setRow_heap _ _ _ _ _ _ hc,by omega⟩
  ·exact ⟨d,T',fr,by rw [setRow_other _ _ _ _ hbb]; exact hd,hsz'⟩
theorem sound_storeE (hi : INV bars κ σ w) {n : Nat} {p v : PV} {σ' : Sto} {x' y' : Operand} {t : TypeId} {i : TypeInfo} (h1 : RelV κ p (a.eval x')) (h2 : below σ.length p = true) (h3 : RelV κ v (a.eval y')) (h4 : below σ.length v = true) (hti : P.info? t = some i) (hs : i.size = n)
  (ho : o.op = .store t x' y') (hst : storeE bars σ n p v = some σ') : OpOK bars κ σ w ((execOp a.eval o).run P w) (.val (.tup []) σ') := by
 unfold storeE at hst
 split at hst
 ·rename_i hlen
  obtain ⟨hlen,hok⟩ := hlen
  have hxs := cells_size h3 hok
  split at hst
  ·rename_i id off
   split at hst
   ·rename_i cs hsi
    split at hst
    ·rename_i hbar
     simp only [Option.bind_eq_some_iff,Option.some.injEq] at hst
     obtain ⟨cs',hput,rfl⟩ := hst
     obtain ⟨hle,rfl⟩ := putAt_some hput
     have hlt : id < σ.length := (List.getElem?_eq_some_iff.1 hsi).1
     obtain ⟨hg,h0,⟨c,T,hc,hrel,hone⟩,hM⟩ := hi.obs id _ hsi
     obtain ⟨q,hq,-,hq'⟩ := h1
     have hq' := hq' hg
     subst hq'
     obtain ⟨hcr,hc1⟩ := h3.cells hok
     have hcl : cs.length = c.size := by simpa using hrel.length
     have hrun0 := run_storeVar (P := P) (x := a.eval y') (o := (κ.ρ id).2 + off) hti (by rw [← hxs,hlen,hs]) hc (by rw [h0]; omega) hc1
     have hrun := hrun0
     simp only [h0,Nat.zero_add,List.append_assoc] at hrun
     have hob : obRel κ (w.setRow (κ.ρ id).1 (c.toList.take off ++ (a.eval y').cells.toList ++ c.toList.drop (off + (a.eval y').cells.size)).toArray) id (.var (cs.take off ++ cells v ++ cs.drop (off + (cells v).length))) := by
      refine ⟨hg,h0,⟨_,T,setRow_heap _ _ _ _ _ _ hc,?_,?_⟩,hM⟩
      ·simpa using RelL.put (off := off) hrel hcr
      ·intro u hu
       simp only [List.mem_append] at hu
       rcases hu with (hu | hu) | hu
       ·exact hone u (List.mem_of_mem_take hu)
       ·exact hc1 u hu
       ·exact hone u (List.mem_of_mem_drop hu)
     have hbl : ∀ m,below.belowAll m cs = true → below m v = true → obBelow m (.var (cs.take off ++ cells v ++ cs.drop (off + (cells v).length))) = true := by
      intro m hb1 hb2
      simp only [obBelow,belowAll_append,Bool.and_eq_true]
      exact ⟨⟨belowAll_of fun p hp => belowAll_mem hb1 (List.mem_of_mem_take hp),below_cells' hb2⟩,belowAll_of fun p hp => belowAll_mem hb1 (List.mem_of_mem_drop hp)⟩
     obtain ⟨h5,h6⟩ := INV.row hi (c' := (c.toList.take off ++ (a.eval y').cells.toList ++ c.toList.drop (off + (a.eval y').cells.size)).toArray) hlt (by rw [own_eq hsi]; rfl) hc
      (by simp; omega) rfl hob (fun o v hm => by rw [hM o] at hm; cases hm) (hbl _ (hi.wf _ _ hsi) h4) (fun m hm hlt' => hbl m ((hi.wfb m hm).2 id _ hlt' hsi) (barsOk_spec hbar m hm hlt'))
     refine ⟨κ,_,undef,.inr ⟨?_,rfl⟩,relV_undef _,rfl,h5,h6,by simp⟩
     simp [execOp,ho,Instr.storeAt,Instr.sureAddr,hq,h0,hrun,List.append_assoc]
    ·cases hst
   ·cases hst
  ·rename_i id ver j off
   split at hst
   ·rename_i vv kk es hsi
    split at hst
    ·rename_i hver
     obtain ⟨hver,hb0⟩ := hver
     subst hver
     simp only [Option.bind_eq_some_iff,Option.some.injEq] at hst
     obtain ⟨e,hej,e',hput,rfl⟩ := hst
     obtain ⟨hle,rfl⟩ := putAt_some hput
     have hlt : id < σ.length := (List.getElem?_eq_some_iff.1 hsi).1
     obtain ⟨hg,hke,⟨c,T,hc,hes,hone,pre,post,vs,hcl,hpre,hrel⟩,hM⟩ := hi.obs id _ hsi
     obtain ⟨-,q,hq,hq'⟩ := h1
     have hq' := hq' hg
     subst hq'
     rw [hke] at hq
     have hnr := RelV.norm v _ h3
     have hnok := norm_okc hok
     obtain ⟨hcr,hc1⟩ := hnr.cells hnok
     have hns := cells_size hnr hnok
     have hel := hes e (List.mem_of_getElem? hej)
     have hvl : vs.length = es.length * kk := by rw [← hrel.length,flat_len hes]
     have hjl : j < es.length := (List.getElem?_eq_some_iff.1 hej).1
     have hmul : (j + 1) * kk ≤ es.length * kk := Nat.mul_le_mul_right _ hjl
     rw [Nat.succ_mul] at hmul
     have hcsz : c.size = pre.length + vs.length + post.length := by rw [← Array.length_toList,hcl]; simp only [List.length_append]
     have hrun := run_storeVar (P := P) (x := a.eval y') (o := (κ.ρ id).2 + j * kk + off) hti (by rw [← hxs,hlen,hs]) hc (by omega) hc1
     have hbo : ∀ m,below.belowEs m es = true → below m (Ev.norm v) = true → obBelow m (.arr vv kk (es.set j (e.take off ++ cells (Ev.norm v) ++ e.drop (off + (cells (Ev.norm v)).length)))) = true := by
      intro m _ _
      have h0 : below.belowEs 0 es = true := hi.wf _ _ hsi
      simp only [obBelow]
      have : ∀ (l : List (List PV)),below.belowEs 0 l = true → ∀ j e',below.belowAll 0 e' = true → below.belowEs 0 (l.set j e') = true := by
       intro l
       induction l with
       | nil => intro _ j e' _; simp [below.belowEs]
       | cons x r ih =>
        intro h j e' he'
        simp only [below.belowEs,Bool.and_eq_true] at h
        cases j with
        | zero => simp [below.belowEs,h.2,he']
        | succ j => simp only [List.set_cons_succ,below.belowEs,h.1,ih h.2 j e' he',Bool.and_self]
      refine this es h0 j _ ?_
      have he0 : below.belowAll 0 e = true := by
       have hf := belowEs_flatten (n := 0) es
       rw [h0] at hf
       exact belowAll_of fun p hp => belowAll_mem hf (List.mem_flatten.2 ⟨e,List.mem_of_getElem? hej,hp⟩)
      simp only [belowAll_append,Bool.and_eq_true]
      exact ⟨⟨belowAll_of fun p hp => belowAll_mem he0 (List.mem_of_mem_take hp),below_cells' hb0⟩,belowAll_of fun p hp => belowAll_mem he0 (List.mem_of_mem_drop hp)⟩
     have hb0' : ∀ m,below.belowEs m es = true := fun m => belowEs_mono (Nat.zero_le _) _ (hi.wf _ _ hsi)
     have hbv : ∀ m,below m (Ev.norm v) = true := fun m => below_mono (Nat.zero_le _) _ hb0
     have hlist : c.toList.take ((κ.ρ id).2 + j * kk + off) ++ (a.eval y').cells.toList ++ c.toList.drop ((κ.ρ id).2 + j * kk + off + (a.eval y').cells.size) = pre ++ (vs.take (j * kk + off) ++ (a.eval y').cells.toList ++ vs.drop (j * kk + off + (a.eval y').cells.toList.length)) ++ post := by
      rw [hcl,List.append_assoc pre,List.take_append,List.take_of_length_le (l := pre) (by omega),List.drop_append,List.drop_eq_nil_of_le (as := pre) (by omega),hpre]
      rw [List.take_append_of_le_length (by omega),List.drop_append_of_le_length (by omega)]
      simp only [List.append_assoc,List.nil_append,Array.length_toList]
      congr 2
      ·congr 1; omega
      ·congr 3; omega
     have hob : obRel κ (w.setRow (κ.ρ id).1 (c.toList.take ((κ.ρ id).2 + j * kk + off) ++ (a.eval y').cells.toList ++ c.toList.drop ((κ.ρ id).2 + j * kk + off + (a.eval y').cells.size)).toArray) id (.arr vv kk (es.set j (e.take off ++ cells (Ev.norm v) ++ e.drop (off + (cells (Ev.norm v)).length)))) := by
      refine ⟨hg,hke,⟨_,T,setRow_heap _ _ _ _ _ _ hc,fun e' he' => ?_,fun u hu => ?_,pre,post,_,hlist,hpre,?_⟩,hM⟩
      ·rcases List.mem_or_eq_of_mem_set he' with h | h
       ·exact hes e' h
       ·subst h; simp; omega
      ·simp only [List.mem_append] at hu
       rcases hu with (hu | hu) | hu
       ·exact hone u (List.mem_of_mem_take hu)
       ·exact hc1 u hu
       ·exact hone u (List.mem_of_mem_drop hu)
      ·rw [flat_set hes hej (by omega) rfl]
       exact RelL.put hrel hcr
     obtain ⟨h5,h6⟩ := INV.row hi (c' := (c.toList.take ((κ.ρ id).2 + j * kk + off) ++ (a.eval y').cells.toList ++ c.toList.drop ((κ.ρ id).2 + j * kk + off + (a.eval y').cells.size)).toArray) hlt (by rw [own_eq hsi]; rfl) hc
      (by simp; omega) rfl hob (fun o v hm => by
       have hlt' : o < (κ.ρ id).2 := by
        rcases Nat.lt_or_ge o (κ.ρ id).2 with h' | h'
        ·exact h'
        ·rw [hM o h'] at hm; cases hm
       rw [List.append_assoc]
       simp only [List.getElem?_toArray]
       rw [List.getElem?_append_left (by simp; omega),List.getElem?_take,if_pos (by omega)]
       simp) (hbo _ (hb0' _) (hbv _)) (fun m hm hlt' => hbo m (hb0' _) (hbv _))
     refine ⟨κ,_,undef,.inr ⟨?_,rfl⟩,relV_undef _,rfl,h5,h6,by simp⟩
     simp [execOp,ho,Instr.storeAt,Instr.sureAddr,hq,hrun,List.append_assoc]
    ·cases hst
   ·rename_i vv kk es z hsi
    split at hst
    ·rename_i hver
     obtain ⟨hver,hj,hb0⟩ := hver
     subst hver
     simp only [Option.bind_eq_some_iff,Option.some.injEq] at hst
     obtain ⟨z',hput,rfl⟩ := hst
     obtain ⟨hle,rfl⟩ := putAt_some hput
     have hlt : id < σ.length := (List.getElem?_eq_some_iff.1 hsi).1
     obtain ⟨hg,hke,⟨c,T,hc,hzl,hE,pre,post,vs,hcl,hpre,hrel,hone⟩,hM⟩ := hi.obs id _ hsi
     obtain ⟨-,q,hq,hq'⟩ := h1
     have hq' := hq' hg
     subst hq'
     rw [hke,hj] at hq
     have hnr := RelV.norm v _ h3
     have hnok := norm_okc hok
     obtain ⟨hcr,hc1⟩ := hnr.cells hnok
     have hns := cells_size hnr hnok
     have hvl : vs.length = kk := by rw [← hrel.length,hzl]
     have hcsz : c.size = pre.length + vs.length + post.length := by rw [← Array.length_toList,hcl]; simp only [List.length_append]
     have hrun := run_storeVar (P := P) (x := a.eval y') (o := (κ.ρ id).2 + es.length * kk + off) hti (by rw [← hxs,hlen,hs]) hc (by omega) hc1
     have hwf := hi.wf _ _ hsi
     simp only [obBelow,Bool.and_eq_true] at hwf
     have hbo : obBelow 0 (.pt vv kk es (z.take off ++ cells (Ev.norm v) ++ z.drop (off + (cells (Ev.norm v)).length))) = true := by
      simp only [obBelow,belowAll_append,Bool.and_eq_true]
      exact ⟨hwf.1,⟨belowAll_of fun p hp => belowAll_mem hwf.2 (List.mem_of_mem_take hp),below_cells' hb0⟩,belowAll_of fun p hp => belowAll_mem hwf.2 (List.mem_of_mem_drop hp)⟩
     have hlist : c.toList.take ((κ.ρ id).2 + es.length * kk + off) ++ (a.eval y').cells.toList ++ c.toList.drop ((κ.ρ id).2 + es.length * kk + off + (a.eval y').cells.size) = pre ++ (vs.take off ++ (a.eval y').cells.toList ++ vs.drop (off + (a.eval y').cells.toList.length)) ++ post := by
      rw [hcl,List.append_assoc pre,List.take_append,List.take_of_length_le (l := pre) (by omega),List.drop_append,List.drop_eq_nil_of_le (as := pre) (by omega),hpre]
      rw [List.take_append_of_le_length (by omega),List.drop_append_of_le_length (by omega)]
      simp only [List.append_assoc,List.nil_append,Array.length_toList]
      congr 2
      ·congr 1; omega
      ·congr 3; omega
     have hob : obRel κ (w.setRow (κ.ρ id).1 (c.toList.take ((κ.ρ id).2 + es.length * kk + off) ++ (a.eval y').cells.toList ++ c.toList.drop ((κ.ρ id).2 + es.length * kk + off + (a.eval y').cells.size)).toArray) id (.pt vv kk es (z.take off ++ cells (Ev.norm v) ++ z.drop (off + (cells (Ev.norm v)).length))) := by
      refine ⟨hg,hke,⟨_,T,setRow_heap _ _ _ _ _ _ hc,?_,hE,pre,post,_,hlist,hpre,RelL.put hrel hcr,fun u hu => ?_⟩,hM⟩
      ·simp; omega
      ·simp only [List.mem_append] at hu
       rcases hu with (hu | hu) | hu
       ·exact hone u (List.mem_of_mem_take hu)
       ·exact hc1 u hu
       ·exact hone u (List.mem_of_mem_drop hu)
     obtain ⟨h5,h6⟩ := INV.row hi (c' := (c.toList.take ((κ.ρ id).2 + es.length * kk + off) ++ (a.eval y').cells.toList ++ c.toList.drop ((κ.ρ id).2 + es.length * kk + off + (a.eval y').cells.size)).toArray) hlt (by rw [own_eq hsi]; rfl) hc
      (by simp; omega) rfl hob (fun o v hm => by
       have hlt' : o < (κ.ρ id).2 + es.length * kk := by
        rcases Nat.lt_or_ge o ((κ.ρ id).2 + es.length * kk) with h' | h'
        ·exact h'
        ·rw [hM o h'] at hm; cases hm
       rw [List.append_assoc]
       simp only [List.getElem?_toArray]
       rw [List.getElem?_append_left (by simp; omega),List.getElem?_take,if_pos (by omega)]
       simp) (obBelow_mono (Nat.zero_le _) _ hbo) (fun m hm hlt' => obBelow_mono (Nat.zero_le _) _ hbo)
     refine ⟨κ,_,undef,.inr ⟨?_,rfl⟩,relV_undef _,rfl,h5,h6,by simp⟩
     simp [execOp,ho,Instr.storeAt,Instr.sureAddr,hq,hrun,List.append_assoc]
    ·cases hst
   ·cases hst
  ·cases hst
 ·cases hst
theorem sound_store (hi : INV bars κ σ w) (he : ENV κ σ.length env a.tmps) {n : Nat} {x y : Opd} {x' y' : Operand} {t : TypeId} {i : TypeInfo} (hx : chkO x x' = true) (hy : chkO y y' = true) (hti : P.info? t = some i) (hs : i.size = n)
  (ho : o.op = .store t x' y') (hr : opE bars env σ (.store n x y) = some r) : OpOK bars κ σ w ((execOp a.eval o).run P w) r := by
 simp only [opE,Option.bind_eq_some_iff,Option.some.injEq] at hr
 obtain ⟨p,hp,v,hv,σ',hst,rfl⟩ := hr
 obtain ⟨h1,h2⟩ := chkO_spec he hx hp
 obtain ⟨h3,h4⟩ := chkO_spec he hy hv
 exact sound_storeE hi h1 h2 h3 h4 hti hs ho hst
theorem sound_storeb (hi : INV bars κ σ w) (he : ENV κ σ.length env a.tmps) {b n : Nat} {x y : Opd} {x' y' : Operand} {t : TypeId} {i : TypeInfo} (hx : chkO x x' = true) (hy : chkO y y' = true) (hti : P.info? t = some i) (hs : i.size = n)
  (ho : o.op = .store t x' y') (hr : opE bars env σ (.storeb b n x y) = some r) : OpOK bars κ σ w ((execOp a.eval o).run P w) r := by
 simp only [opE,Option.bind_eq_some_iff] at hr
 obtain ⟨p,hp,hr⟩ := hr
 split at hr
 ·simp only [Option.bind_eq_some_iff,Option.some.injEq] at hr
  obtain ⟨v,hv,σ',hst,rfl⟩ := hr
  obtain ⟨h1,h2⟩ := chkO_spec he hx hp
  obtain ⟨h3,h4⟩ := chkO_spec he hy hv
  exact sound_storeE hi h1 h2 h3 h4 hti hs ho hst
 ·cases hr
theorem sound_storem (hi : INV bars κ σ w) (he : ENV κ σ.length env a.tmps) {av : List Nat} {n : Nat} {x y : Opd} {x' y' : Operand} {t : TypeId} {i : TypeInfo} (hx : chkO x x' = true) (hy : chkO y y' = true) (hti : P.info? t = some i) (hs : i.size = n)
  (ho : o.op = .store t x' y') (hr : opE bars env σ (.storem av n x y) = some r) : OpOK bars κ σ w ((execOp a.eval o).run P w) r := by
 simp only [opE,Option.bind_eq_some_iff] at hr
 obtain ⟨p,hp,hr⟩ := hr
 split at hr
 ·simp only [Option.bind_eq_some_iff,Option.some.injEq] at hr
  obtain ⟨v,hv,σ',hst,rfl⟩ := hr
  obtain ⟨h1,h2⟩ := chkO_spec he hx hp
  obtain ⟨h3,h4⟩ := chkO_spec he hy hv
  exact sound_storeE hi h1 h2 h3 h4 hti hs ho hst
 ·cases hr
theorem sound_faddr (hi : INV bars κ σ w) (he : ENV κ σ.length env a.tmps) {off : Nat} {x : Opd} {x' : Operand} {t : TypeId} {k : Nat} {fs : Array Field} {f : Field} {i : TypeInfo} (hx : chkO x x' = true) (ht : P.underlying t = some (.struct fs)) (hf : fs[k]? = some f) (hfi : P.info? f.type = some i) (hz : i.size ≠ 0) (hoff : f.offset = off)
  (ho : o.op = .fieldAddr t x' k) (hr : opE bars env σ (.faddr off x) = some r) : OpOK bars κ σ w ((execOp a.eval o).run P w) r := by
 have run : ∀ {ad : Addr},a.eval x' = .pointer (some ad) → (execOp a.eval o).run P w = .ok (.value (.pointer (some (ad.add off)))) w := by
  intro ad had
  simp [execOp,ho,Instr.fieldAt,underlying,ht,hf,had,Instr.sureAddr,fieldPlace,sizeOf,typeInfo,hfi,hz,hoff]
 simp only [opE] at hr
 split at hr
 ·rename_i id q hv
  cases hr
  obtain ⟨⟨ad,h1,hge,h1'⟩,h2⟩ := chkO_spec he hx hv
  refine opOK_val hi (run h1) ⟨_,rfl,hge,fun hg => ?_⟩ (by simpa [below] using h2)
  have := h1' hg
  subst this
  rw [add_plain,Nat.add_assoc]
 ·rename_i id ver j q hv
  cases hr
  obtain ⟨⟨h0,ad,h1,h1'⟩,h2⟩ := chkO_spec he hx hv
  refine opOK_val hi (run h1) ⟨h0,_,rfl,fun hg => ?_⟩ (by simpa [below] using h2)
  have := h1' hg
  subst this
  rw [add_plain,Nat.add_assoc]
 ·rename_i cs q hv
  cases hr
  obtain ⟨⟨b,oo,h1,h1'⟩,h2⟩ := chkO_spec he hx hv
  refine opOK_val hi (run h1) ⟨b,oo,by rw [add_plain,Nat.add_assoc],h1'⟩ (by simpa [below] using h2)
 ·cases hr
end
end Go.Ev


namespace Go.Ev
variable [CodeRel]
theorem RelE.get {κ : Kn} {esz b : Nat} : ∀ {es : List (List PV)} {o i : Nat} {e : List PV},RelE κ esz b o es → es[i]? = some e → e.length = esz ∧ RelM κ b (o + i * esz) e
 | [],o,i,e,_,h => by simp at h
 | x :: r,o,i,e,hr,h => by
  simp only [RelE] at hr
  cases i with
  | zero => simp at h; subst h; exact ⟨hr.1,by simpa using hr.2.1⟩
  | succ i =>
   simp at h
   have := RelE.get hr.2.2 h
   refine ⟨this.1,?_⟩
   rw [show o + (i + 1) * esz = o + esz + i * esz by rw [Nat.succ_mul]; omega]
   exact this.2
theorem RelE.take {κ : Kn} {esz b : Nat} : ∀ {es : List (List PV)} {o : Nat} (n : Nat),RelE κ esz b o es → RelE κ esz b o (es.take n)
 | es,o,0,h => by simp [RelE]
 | [],o,n + 1,h => by simp [RelE]
 | x :: r,o,n + 1,h => by
  simp only [RelE,List.take_succ_cons] at *
  exact ⟨h.1,h.2.1,RelE.take n h.2.2⟩
theorem RelE.drop {κ : Kn} {esz b : Nat} : ∀ {es : List (List PV)} {o : Nat} (n : Nat),RelE κ esz b o es → RelE κ esz b (o + n * esz) (es.drop n)
 | es,o,0,h => by simpa using h
 | [],o,n + 1,h => by simp [RelE]
 | x :: r,o,n + 1,h => by
  simp only [RelE] at h
  have := RelE.drop n h.2.2
  rw [show o + (n + 1) * esz = o + esz + n * esz by rw [Nat.succ_mul]; omega]
  simpa using this
theorem belowEs_mem {n : Nat} {l : List (List PV)} (h : below.belowEs n l = true) {e : List PV} (he : e ∈ l) : below.belowAll n e = true := by
 rw [← belowEs_flatten] at h
 exact belowAll_of fun p hp => belowAll_mem h (List.mem_flatten.2 ⟨e,he,hp⟩)
theorem belowEs_of {n : Nat} {l : List (List PV)} (h : ∀ e ∈ l,below.belowAll n e = true) : below.belowEs n l = true := by
 induction l with
 | nil => rfl
 | cons x r ih => simp only [below.belowEs,Bool.and_eq_true]; exact ⟨h x (by simp),ih fun e he => h e (by simp [he])⟩
section
variable {P : Program} {bars : List Nat} {κ : Kn} {σ : Sto} {w : World} {env : Env} {a : Act} {o : Oper} {r : OpR}
theorem sound_nilc (hi : INV bars κ σ w) (he : ENV κ σ.length env a.tmps) {x : Opd} {x' : Operand} (hx : chkO x x' = true) (ho : o.op = .nilCheck x') (hr : opE bars env σ (.nilc x) = some r) : OpOK bars κ σ w ((execOp a.eval o).run P w) r := by
 simp only [opE] at hr
 split at hr
 ·cases hr
 ·rename_i f cap hv
  cases hr
  obtain ⟨⟨vs,h1,h3⟩,h2⟩ := chkO_spec he hx hv
  exact opOK_val hi (by simp [execOp,ho,h1]) ⟨vs,rfl,h3⟩ h2
 ·cases hr
 ·rename_i v hk hf hf' hv
  cases hr
  obtain ⟨h1,h2⟩ := chkO_spec he hx hv
  refine opOK_val hi ?_ h1 h2
  cases v with
  | k u => exact (hk u rfl).elim
  | ptr id q => obtain ⟨ad,h1,_⟩ := h1; simp [execOp,ho,h1]
  | pa id ver i q => obtain ⟨_,ad,h1,_⟩ := h1; simp [execOp,ho,h1]
  | pe cs q => obtain ⟨b,oo,h1,_⟩ := h1; simp [execOp,ho,h1]
  | sl t es => obtain ⟨_,_,_,h1,_⟩ := h1; simp [execOp,ho,h1]
  | ow id n es => obtain ⟨_,_,_,_,h1,_⟩ := h1; simp [execOp,ho,h1]
  | rs id ver q len => obtain ⟨_,_,_,h1,_⟩ := h1; simp [execOp,ho,h1]
  | agg cs => obtain ⟨_,h1,_⟩ := h1; simp [execOp,ho,h1]
  | tup cs => obtain ⟨_,h1,_⟩ := h1; simp [execOp,ho,h1]
  | fn f cap => exact (hf' f cap rfl).elim
  | map id => obtain ⟨q,h1,_⟩ := h1; simp [execOp,ho,h1]
  | yld id => obtain ⟨q,h1,_⟩ := h1; simp [execOp,ho,h1]
  | bm f fs => obtain ⟨q,h1,_⟩ := h1; simp [execOp,ho,h1]
  | iface t u => obtain ⟨q,h1,_⟩ := h1; simp [execOp,ho,h1]
 ·cases hr
theorem sound_len (hi : INV bars κ σ w) (he : ENV κ σ.length env a.tmps) {str : Bool} {x : Opd} {x' : Operand} {t : TypeId} {d : TypeDesc} (hx : chkO x x' = true) (ht : P.underlying t = some d) (hd : if str then d = .string else ∃ e,d = .slice e)
  (ho : o.op = .call { callee := .builtin .len,args := #[x'],argTypes := #[t] }) (hr : opE bars env σ (.len str x) = some r) : OpOK bars κ σ w ((execOp a.eval o).run P w) r := by
 simp only [opE,Option.bind_eq_some_iff] at hr
 obtain ⟨v,hv,n,hn,hr⟩ := hr
 split at hr
 ·cases hr
  obtain ⟨h1,h2⟩ := chkO_spec he hx hv
  refine opOK_val hi (x := .int .i64 n) ?_ rfl rfl
  unfold lenE at hn
  split at hn
  ·split at hn
   ·cases hn
   ·rename_i hs
    cases hn
    obtain ⟨_,_,_,h1,_⟩ := h1
    simp only [hs,if_false] at hd
    obtain ⟨e,rfl⟩ := hd
    simp [execOp,ho,resolve,invoke,builtin,Builtin.len_,underlying,ht,h1,goInt]
  ·split at hn
   ·cases hn
   ·rename_i hs
    cases hn
    obtain ⟨_,_,_,_,h1,_⟩ := h1
    simp only [hs,if_false] at hd
    obtain ⟨e,rfl⟩ := hd
    simp [execOp,ho,resolve,invoke,builtin,Builtin.len_,underlying,ht,h1,goInt]
  ·split at hn
   ·cases hn
   ·rename_i hs
    cases hn
    obtain ⟨_,_,_,h1,_⟩ := h1
    simp only [hs,if_false] at hd
    obtain ⟨e,rfl⟩ := hd
    simp [execOp,ho,resolve,invoke,builtin,Builtin.len_,underlying,ht,h1,goInt]
  ·split at hn
   ·rename_i hs
    cases hn
    simp only [RelV] at h1
    simp only [hs,if_true] at hd
    subst hd
    simp [execOp,ho,resolve,invoke,builtin,Builtin.len_,underlying,ht,h1,goInt]
   ·cases hn
  ·cases hn
 ·cases hr
theorem sound_conv (hi : INV bars κ σ w) (he : ENV κ σ.length env a.tmps) {x : Opd} {x' : Operand} {s t : TypeId} {d : TypeDesc} {k : IntKind} (hx : chkO x x' = true) (hs : P.underlying s = some d) (ht : P.underlying t = some (.int k))
  (ho : o.op = .convert s t x') (hr : opE bars env σ (.conv k x) = some r) : OpOK bars κ σ w ((execOp a.eval o).run P w) r := by
 simp only [opE] at hr
 split at hr
 ·rename_i j n hv
  cases hr
  obtain ⟨h1,h2⟩ := chkO_spec he hx hv
  simp only [RelV] at h1
  exact opOK_val hi (by simp [execOp,ho,convert,underlying,hs,ht,h1,Conv.intToInt]) rfl rfl
 ·cases hr
theorem sound_strc (hi : INV bars κ σ w) (he : ENV κ σ.length env a.tmps) {x : Opd} {x' : Operand} {s t : TypeId} {d : TypeDesc} (hx : chkO x x' = true) (hs : P.underlying s = some d) (ht : P.underlying t = some .string)
  (ho : o.op = .convert s t x') (hr : opE bars env σ (.strc x) = some r) : OpOK bars κ σ w ((execOp a.eval o).run P w) r := by
 simp only [opE] at hr
 split at hr
 ·rename_i j n hv
  cases hr
  obtain ⟨h1,h2⟩ := chkO_spec he hx hv
  simp only [RelV] at h1
  exact opOK_val hi (by simp [execOp,ho,convert,underlying,hs,ht,h1,Conv.intToString]) rfl rfl
 ·cases hr
theorem sound_beq (hi : INV bars κ σ w) (he : ENV κ σ.length env a.tmps) {neg : Bool} {x y : Opd} {x' y' : Operand} {t t' : TypeId} (hx : chkO x x' = true) (hy : chkO y y' = true) (ht : P.underlying t = some .bool)
  (ho : o.op = .binOp (if neg then .neq else .eql) t x' y' t') (hr : opE bars env σ (.beq neg x y) = some r) : OpOK bars κ σ w ((execOp a.eval o).run P w) r := by
 simp only [opE] at hr
 split at hr
 ·rename_i m n hu hv
  cases hr
  obtain ⟨h1,-⟩ := chkO_spec he hx hu
  obtain ⟨h2,-⟩ := chkO_spec he hy hv
  simp only [RelV] at h1 h2
  have hg : ∀ op w,(eqGuard op t x' y' (.bool m) (.bool n)).run P w = .ok () w := fun op w => by unfold eqGuard; split <;> simp
  have hin : ∀ d w,(Op.equalIn (d + 1) t (.bool m) (.bool n)).run P w = .ok (m == n) w := fun d w => by simp [Op.equalIn,underlying,ht]
  have heq : ∀ w,(Op.equal t (.bool m) (.bool n)).run P w = .ok (m == n) w := fun w => hin 9999 w
  refine opOK_val hi ?_ rfl rfl
  cases neg
  ·simp only [Bool.false_eq_true,if_false] at ho
   simp [execOp,ho,h1,h2,hg,binOp,heq]
  ·simp only [if_true] at ho
   simp [execOp,ho,h1,h2,hg,binOp,heq]
 ·cases hr
theorem sound_miface (hi : INV bars κ σ w) (he : ENV κ σ.length env a.tmps) {x : Opd} {x' : Operand} {t : TypeId} {d : TypeDesc} (hx : chkO x x' = true) (ht : P.underlying t = some d) (hd : ∀ ms,d ≠ .interface ms)
  (ho : o.op = .makeInterface t x') (hr : opE bars env σ (.miface t x) = some r) : OpOK bars κ σ w ((execOp a.eval o).run P w) r := by
 simp only [opE,Option.bind_eq_some_iff,Option.some.injEq] at hr
 obtain ⟨v,hv,rfl⟩ := hr
 obtain ⟨h1,h2⟩ := chkO_spec he hx hv
 refine opOK_val hi ?_ ⟨_,rfl,RelV.norm v _ h1⟩ (by simpa [below] using below_norm v h2)
 cases d <;> first | (exact absurd rfl (hd _)) | simp [execOp,ho,Instr.makeInterface,underlying,ht]
theorem evs_spec (he : ENV κ σ.length env a.tmps) : ∀ {l : List Opd} {l' : List Operand} {vs : List PV},l.length = l'.length → (∀ p ∈ l.zip l',chkO p.1 p.2 = true) → evs env l = some vs → RelL κ vs (l'.map a.eval) ∧ below.belowAll σ.length vs = true
 | [],[],vs,_,_,h => by simp [evs] at h; subst h; exact ⟨rfl,rfl⟩
 | [],_ :: _,vs,hl,_,_ => by simp at hl
 | _ :: _,[],vs,hl,_,_ => by simp at hl
 | x :: r,y :: s,vs,hl,hc,h => by
  simp only [evs,Option.bind_eq_some_iff,Option.some.injEq] at h
  obtain ⟨v,hv,us,hus,rfl⟩ := h
  obtain ⟨h1,h2⟩ := chkO_spec he (hc (x,y) (by simp)) hv
  obtain ⟨h3,h4⟩ := evs_spec he (by simpa using hl) (fun p hp => hc p (by simp [hp])) hus
  exact ⟨⟨_,_,rfl,h1,h3⟩,by simp [below.belowAll,h2,h4]⟩
theorem sound_mfunc (hi : INV bars κ σ w) (he : ENV κ σ.length env a.tmps) {f : FuncId} {xs : List Opd} {xs' : Array Operand} (hl : xs.length = xs'.toList.length) (hc : ∀ p ∈ xs.zip xs'.toList,chkO p.1 p.2 = true)
  (ho : o.op = .makeFunc (.func f) #[] xs') (hr : opE bars env σ (.mfunc (.func f) xs) = some r) : OpOK bars κ σ w ((execOp a.eval o).run P w) r := by
 simp only [opE,Option.bind_eq_some_iff,Option.some.injEq] at hr
 obtain ⟨vs,hvs,rfl⟩ := hr
 obtain ⟨h1,h2⟩ := evs_spec he hl hc hvs
 exact opOK_val hi (x := .func (.func f) #[] (xs'.map a.eval)) (by simp [execOp,ho,Instr.makeFunc]) ⟨_,rfl,by simpa using h1⟩ (by simpa [below] using h2)
theorem sound_mbm (hi : INV bars κ σ w) (he : ENV κ σ.length env a.tmps) {f : FuncId} {xs : List Opd} {xs' : Array Operand} (hl : xs.length = xs'.toList.length) (hc : ∀ p ∈ xs.zip xs'.toList,chkO p.1 p.2 = true)
  (ho : o.op = .makeFunc (.func f) xs' #[]) (hr : opE bars env σ (.mbm f xs) = some r) : OpOK bars κ σ w ((execOp a.eval o).run P w) r := by
 simp only [opE,Option.bind_eq_some_iff,Option.some.injEq] at hr
 obtain ⟨vs,hvs,rfl⟩ := hr
 obtain ⟨h1,h2⟩ := evs_spec he hl hc hvs
 exact opOK_val hi (x := .func (.func f) (xs'.map a.eval) #[]) (by simp [execOp,ho,Instr.makeFunc]) ⟨_,rfl,by simpa using h1⟩ (by simpa [below] using h2)
theorem equalIn_nil {t : TypeId} {ms : Array (String × TypeId)} (ht : P.underlying t = some (.interface ms)) (d : Nat) : (∀ u v,(Op.equalIn (d + 1) t (.iface u v) .nilIface).run P w = .ok false w) ∧ (Op.equalIn (d + 1) t .nilIface .nilIface).run P w = .ok true w := by
 constructor
 ·intro u v; unfold Op.equalIn; simp [underlying,ht]
 ·unfold Op.equalIn; simp [underlying,ht]
theorem run_slnil {t e : TypeId} (ht : P.underlying t = some (.slice e)) (x : Operand) (neg : Bool) (ad : Option Addr) (n c : Nat) : (do eqGuard (if neg then .neq else .eql) t x (.const (.slice none 0 0)) (.slice ad n c) (.slice none 0 0); binOp (if neg then .neq else .eql) t (.slice ad n c) (.slice none 0 0)).run P w = .ok (.bool (ad.isNone != neg)) w := by
 have h1 : (Op.equal t (.slice ad n c) (.slice none 0 0)).run P w = .ok ad.isNone w := by
  show (Op.equalIn (9999 + 1) t (.slice ad n c) (.slice none 0 0)).run P w = .ok ad.isNone w
  unfold Op.equalIn
  cases ad <;> simp [underlying,ht]
 cases neg <;> cases ad <;> simp [eqGuard,binOp,h1]
theorem run_isnil {t : TypeId} {ms : Array (String × TypeId)} (ht : P.underlying t = some (.interface ms)) (x : Operand) (neg : Bool) : (∀ u v,(do eqGuard (if neg then .neq else .eql) t x (.const .nilIface) (.iface u v) .nilIface; binOp (if neg then .neq else .eql) t (.iface u v) .nilIface).run P w = .ok (.bool neg) w) ∧
  (do eqGuard (if neg then .neq else .eql) t x (.const .nilIface) .nilIface .nilIface; binOp (if neg then .neq else .eql) t .nilIface .nilIface).run P w = .ok (.bool (!neg)) w := by
 obtain ⟨h1,h2⟩ := equalIn_nil (w := w) ht 9999
 have e1 : ∀ u v,(Op.equal t (.iface u v) .nilIface).run P w = .ok false w := h1
 have e2 : (Op.equal t .nilIface .nilIface).run P w = .ok true w := h2
 constructor
 ·intro u v; cases neg <;> simp [eqGuard,binOp,e1]
 ·cases neg <;> simp [eqGuard,binOp,e2]
theorem sound_isnil (hi : INV bars κ σ w) (he : ENV κ σ.length env a.tmps) {neg : Bool} {x : Opd} {x' : Operand} {t rt : TypeId} {ms : Array (String × TypeId)} (hx : chkO x x' = true) (ht : P.underlying t = some (.interface ms))
  (ho : o.op = .binOp (if neg then .neq else .eql) t x' (.const .nilIface) rt) (hr : opE bars env σ (.isnil neg x) = some r) : OpOK bars κ σ w ((execOp a.eval o).run P w) r := by
 simp only [opE] at hr
 split at hr
 ·rename_i u v hv
  cases hr
  obtain ⟨⟨y,h1,-⟩,-⟩ := chkO_spec he hx hv
  refine opOK_val hi (x := .bool neg) ?_ rfl rfl
  have hq := (run_isnil (P := P) (w := w) ht x' neg).1 u y
  simp only [execOp,ho,h1,show a.eval (.const .nilIface) = .nilIface from rfl,Sem.run_bind,hq]
  rfl
 ·rename_i hv
  cases hr
  obtain ⟨h1,-⟩ := chkO_spec he hx hv
  simp only [RelV] at h1
  refine opOK_val hi (x := .bool (!neg)) ?_ rfl rfl
  have hq := (run_isnil (P := P) (w := w) ht x' neg).2
  simp only [execOp,ho,h1,show a.eval (.const .nilIface) = .nilIface from rfl,Sem.run_bind,hq]
  rfl
 ·cases hr
theorem sound_slnil (hi : INV bars κ σ w) (he : ENV κ σ.length env a.tmps) {neg : Bool} {x : Opd} {x' : Operand} {t e rt : TypeId} (hx : chkO x x' = true) (ht : P.underlying t = some (.slice e))
  (ho : o.op = .binOp (if neg then .neq else .eql) t x' (.const (.slice none 0 0)) rt) (hr : opE bars env σ (.slnil neg x) = some r) : OpOK bars κ σ w ((execOp a.eval o).run P w) r := by
 have go : ∀ ad n c,a.eval x' = .slice ad n c → (execOp a.eval o).run P w = .ok (.value (.bool (ad.isNone != neg))) w := by
  intro ad n c h1
  have hq := run_slnil (P := P) (w := w) ht x' neg ad n c
  simp only [execOp,ho,h1,show a.eval (.const (.slice none 0 0)) = .slice none 0 0 from rfl,Sem.run_bind,hq]
  rfl
 simp only [opE] at hr
 split at hr
 ·rename_i ad n c hv
  cases hr
  obtain ⟨h1,-⟩ := chkO_spec he hx hv
  simp only [RelV] at h1
  exact opOK_val hi (go _ _ _ h1) rfl rfl
 ·rename_i t' e0 es hv
  cases hr
  obtain ⟨⟨ad,cap,esz,h1,-,-,hE⟩,-⟩ := chkO_spec he hx hv
  obtain ⟨b,oo,rfl,-⟩ := hE (by simp)
  have h2 := go _ _ _ h1
  simp only [Option.isNone_some,Bool.false_bne] at h2
  exact opOK_val hi h2 rfl rfl
 ·rename_i id n e0 es hv
  cases hr
  obtain ⟨⟨-,ad,cap,esz,h1,-,hE,-⟩,-⟩ := chkO_spec he hx hv
  obtain ⟨b,oo,rfl,-⟩ := hE (by simp)
  have h2 := go _ _ _ h1
  simp only [Option.isNone_some,Bool.false_bne] at h2
  exact opOK_val hi h2 rfl rfl
 ·cases hr
theorem sound_mm (hi : INV bars κ σ w) (he : ENV κ σ.length env a.tmps) {mx : Bool} {x y : Opd} {x' y' : Operand} {ts : Array TypeId} (hx : chkO x x' = true) (hy : chkO y y' = true)
  (ho : o.op = .call { callee := .builtin (if mx then .max else .min),args := #[x',y'],argTypes := ts }) (hr : opE bars env σ (.mm mx x y) = some r) : OpOK bars κ σ w ((execOp a.eval o).run P w) r := by
 simp only [opE] at hr
 split at hr
 ·rename_i m n hu hv
  cases hr
  obtain ⟨h1,-⟩ := chkO_spec he hx hu
  obtain ⟨h2,-⟩ := chkO_spec he hy hv
  simp only [RelV] at h1 h2
  refine opOK_val hi (x := .int .i64 (if mx then max m n else min m n)) ?_ rfl rfl
  cases mx
  ·simp [execOp,ho,resolve,invoke,builtin,Builtin.min_,Builtin.min2,h1,h2]
   omega
  ·simp [execOp,ho,resolve,invoke,builtin,Builtin.max_,Builtin.max2,h1,h2]
   omega
 ·cases hr
theorem sound_fld (hi : INV bars κ σ w) (he : ENV κ σ.length env a.tmps) {off k : Nat} {n : Option Nat} {x : Opd} {x' : Operand} {t : TypeId} {fs : Array Field} {f : Field} {i : TypeInfo} (hx : chkO x x' = true) (ht : P.underlying t = some (.struct fs)) (hf : fs[k]? = some f) (hfi : P.info? f.type = some i) (hs : i.size = n.getD 1) (ha : aggIs P f.type n.isSome = true) (hoff : f.offset = off)
  (ho : o.op = .field t x' k) (hr : opE bars env σ (.fld off n x) = some r) : OpOK bars κ σ w ((execOp a.eval o).run P w) r := by
 simp only [opE] at hr
 split at hr
 ·rename_i cs hv
  simp only [Option.bind_eq_some_iff,Option.some.injEq] at hr
  obtain ⟨c,hc,v,hm,rfl⟩ := hr
  obtain ⟨⟨vs,h1,h3,h4⟩,h2⟩ := chkO_spec he hx hv
  obtain ⟨hle,rfl⟩ := takeAt_some hc
  have hrel := RelL.take (n.getD 1) (RelL.drop off h3)
  have hb : below.belowAll σ.length ((cs.drop off).take (n.getD 1)) = true := belowAll_of fun p hp => belowAll_mem (by simpa [below] using h2) (List.mem_of_mem_drop (List.mem_of_mem_take hp))
  have hlen := h3.length
  simp only [Array.length_toList] at hlen
  unfold aggIs at ha
  cases hu : P.underlying f.type with
  | none => rw [hu] at ha; cases ha
  | some d =>
   rw [hu] at ha
   cases n with
   | none =>
    simp only [mkv] at hm
    split at hm
    ·rename_i p hp
     cases hm
     simp only [Option.getD_none] at hp hrel hb hle
     rw [hp] at hrel hb
     obtain ⟨u,l',hx',h5,h6⟩ := hrel
     simp only [RelL] at h6; subst h6
     have hz : vs[off]? = some u := by
      have : ((vs.toList.drop off).take 1)[0]? = some u := by rw [hx']; rfl
      simpa using this
     refine opOK_val hi (x := u) ?_ h5 (by simpa [below.belowAll] using hb)
     cases d <;> simp at ha <;> simp [execOp,ho,Instr.field,underlying,ht,hf,h1,asAgg,part,isAgg,hu,hoff,hz]
    ·cases hm
   | some m =>
    simp only [mkv] at hm
    split at hm
    ·cases hm
     have hext : (vs.extract off (off + m)).toList = (vs.toList.drop off).take m := by simp [Array.toList_extract]
     refine opOK_val hi (x := .agg (vs.extract off (off + m))) ?_ ⟨_,rfl,by rw [hext]; simpa using hrel,fun v hv => ?_⟩ (by simpa [below] using hb)
     ·simp only [Option.getD_some] at hs
      cases d <;> simp at ha <;> simp [execOp,ho,Instr.field,underlying,ht,hf,h1,asAgg,part,isAgg,hu,hoff,sizeOf,typeInfo,hfi,hs]
     ·rw [hext] at hv
      exact h4 v (List.mem_of_mem_drop (List.mem_of_mem_take hv))
    ·cases hm
 ·cases hr
end
end Go.Ev


namespace Go.Ev
variable [CodeRel]
section
variable {P : Program} {bars : List Nat} {κ : Kn} {σ : Sto} {w : World} {env : Env} {a : Act} {o : Oper} {r : OpR}
theorem run_indexAt_slice {t elem : TypeId} {i : TypeInfo} {x ix : Value} {ad : Addr} {n cap : Nat} {k : IntKind} {m : Int} {esz : Nat} (ht : P.underlying t = some (.slice elem)) (hei : P.info? elem = some i) (hs : i.size = esz)
  (hx : x = .slice (some ad) n cap) (hix : ix = .int k m) (h0 : 0 ≤ m) (h1 : m < n) : (Instr.indexAt t x ix).run P w = .ok (.pointer (some (ad.add (m.toNat * esz)))) w := by
 subst hx hix
 simp [Instr.indexAt,asIntOf,underlying,ht,h0,h1,sizeOf,typeInfo,hei,hs]
theorem run_indexAt_array {t elem : TypeId} {i : TypeInfo} {x ix : Value} {ad : Addr} {n : Nat} {k : IntKind} {m : Int} {esz : Nat} (ht : P.underlying t = some (.array n elem)) (hei : P.info? elem = some i) (hs : i.size = esz)
  (hx : x = .pointer (some ad)) (hix : ix = .int k m) (h0 : 0 ≤ m) (h1 : m < n) : (Instr.indexAt t x ix).run P w = .ok (.pointer (some (ad.add (m.toNat * esz)))) w := by
 subst hx hix
 simp [Instr.indexAt,asIntOf,underlying,ht,h0,h1,sizeOf,typeInfo,hei,hs,Instr.sureAddr]
theorem iaddr_pe {es : List (List PV)} {b oo esz' esz : Nat} {m : Int} {e : List PV} (hE : RelE κ esz' b oo es) (hm : es[m.toNat]? = some e) (hl : e.length = esz) :
  RelV κ (.pe e 0) (.pointer (some ((⟨b,oo,none⟩ : Addr).add (m.toNat * esz)))) := by
 obtain ⟨h1,h2⟩ := RelE.get hE hm
 have : esz' = esz := by omega
 subst this
 exact ⟨b,oo + m.toNat * esz',by rw [add_plain]; rfl,h2⟩
theorem sound_iaddr (hi : INV bars κ σ w) (he : ENV κ σ.length env a.tmps) {arr : Option Nat} {esz : Nat} {x y : Opd} {x' y' : Operand} {t elem : TypeId} {i : TypeInfo} (hx : chkO x x' = true) (hy : chkO y y' = true)
  (ht : P.underlying t = some (match arr with | some n => .array n elem | none => .slice elem)) (hei : P.info? elem = some i) (hs : i.size = esz)
  (ho : o.op = .indexAddr t x' y') (hr : opE bars env σ (.iaddr arr esz x y) = some r) : OpOK bars κ σ w ((execOp a.eval o).run P w) r := by
 simp only [opE] at hr
 split at hr
 ·rename_i id q m hv hu
  obtain ⟨⟨ad,h1,hge,h1'⟩,h2⟩ := chkO_spec he hx hv
  obtain ⟨h3,-⟩ := chkO_spec he hy hu
  simp only [RelV] at h3
  split at hr
  ·rename_i n
   split at hr
   ·rename_i hm
    cases hr
    refine opOK_val hi (x := .pointer (some (ad.add (m.toNat * esz)))) ?_ ⟨_,rfl,hge,fun hg => ?_⟩ (by simpa [below] using h2)
    ·simp [execOp,ho,run_indexAt_array ht hei hs h1 h3 hm.1 hm.2]
    ·have := h1' hg
     subst this
     rw [add_plain,Nat.add_assoc]
   ·cases hr
  ·cases hr
 ·rename_i tt es m hv hu
  obtain ⟨⟨ad,cap,esz',h1,hcap,-,hE⟩,h2⟩ := chkO_spec he hx hv
  obtain ⟨h3,-⟩ := chkO_spec he hy hu
  simp only [RelV] at h3
  split at hr
  ·rename_i hm
   simp only [Option.bind_eq_some_iff] at hr
   obtain ⟨e,hem,hr⟩ := hr
   split at hr
   ·rename_i hel
    cases hr
    obtain ⟨b,oo,rfl,hE'⟩ := hE (by rintro rfl; simp at hem)
    have hlt := (List.getElem?_eq_some_iff.1 hem).1
    obtain ⟨hm,rfl⟩ := hm
    ·refine opOK_val hi ?_ (iaddr_pe hE' hem hel) ?_
     ·simp [execOp,ho,run_indexAt_slice ht hei hs h1 h3 hm (by omega)]
     ·simp only [below] at h2 ⊢
      exact belowEs_mem h2 (List.mem_of_getElem? hem)
   ·cases hr
  ·cases hr
 ·rename_i id nn es m hv hu
  obtain ⟨⟨-,ad,cap,esz',h1,hcap,hE,-⟩,h2⟩ := chkO_spec he hx hv
  obtain ⟨h3,-⟩ := chkO_spec he hy hu
  simp only [RelV] at h3
  split at hr
  ·rename_i hm
   simp only [Option.bind_eq_some_iff] at hr
   obtain ⟨e,hem,hr⟩ := hr
   split at hr
   ·rename_i hel
    cases hr
    obtain ⟨b,oo,rfl,hE'⟩ := hE (by rintro rfl; simp at hem)
    have hlt := (List.getElem?_eq_some_iff.1 hem).1
    obtain ⟨hm,rfl⟩ := hm
    ·refine opOK_val hi ?_ (iaddr_pe hE' hem hel) ?_
     ·simp [execOp,ho,run_indexAt_slice ht hei hs h1 h3 hm (by omega)]
     ·simp only [below,Bool.and_eq_true] at h2 ⊢
      exact belowEs_mem h2.2 (List.mem_of_getElem? hem)
   ·cases hr
  ·cases hr
 ·rename_i id ver off len m hv hu
  obtain ⟨⟨hle,ad,cap,h1,hcap,hl⟩,h2⟩ := chkO_spec he hx hv
  obtain ⟨h3,-⟩ := chkO_spec he hy hu
  simp only [RelV] at h3
  split at hr
  ·rename_i hm
   split at hr
   ·rename_i v k es hsi
    split at hr
    ·rename_i hvk
     obtain ⟨rfl,rfl⟩ := hvk
     cases hr
     obtain ⟨hg,hesz,-⟩ := hi.obs id _ hsi
     obtain ⟨h4,h5⟩ := hl hg (by omega)
     subst h4
     obtain ⟨hm0,hm1,rfl⟩ := hm
     ·refine opOK_val hi (x := .pointer (some ((⟨(κ.ρ id).1,(κ.ρ id).2 + off * κ.esz id,none⟩ : Addr).add (m.toNat * k)))) ?_ ⟨hle,_,rfl,fun _ => ?_⟩ (by simpa [below] using h2)
      ·simp [execOp,ho,run_indexAt_slice ht hei hs h1 h3 hm0 hm1]
      ·rw [add_plain,hesz,Nat.add_mul]; simp [Nat.add_assoc]
    ·cases hr
   ·rename_i v k es zz hsi
    split at hr
    ·rename_i hvk
     obtain ⟨rfl,rfl⟩ := hvk
     cases hr
     obtain ⟨hg,hesz,-⟩ := hi.obs id _ hsi
     obtain ⟨h4,h5⟩ := hl hg (by omega)
     subst h4
     obtain ⟨hm0,hm1,rfl⟩ := hm
     ·refine opOK_val hi (x := .pointer (some ((⟨(κ.ρ id).1,(κ.ρ id).2 + off * κ.esz id,none⟩ : Addr).add (m.toNat * k)))) ?_ ⟨hle,_,rfl,fun _ => ?_⟩ (by simpa [below] using h2)
      ·simp [execOp,ho,run_indexAt_slice ht hei hs h1 h3 hm0 hm1]
      ·rw [add_plain,hesz,Nat.add_mul]; simp [Nat.add_assoc]
    ·cases hr
   ·cases hr
  ·cases hr
 ·cases hr
theorem sound_idx (hi : INV bars κ σ w) (he : ENV κ σ.length env a.tmps) {x y : Opd} {x' y' : Operand} {t : TypeId} (hx : chkO x x' = true) (hy : chkO y y' = true) (ht : P.underlying t = some .string)
  (ho : o.op = .index t x' y') (hr : opE bars env σ (.idx x y) = some r) : OpOK bars κ σ w ((execOp a.eval o).run P w) r := by
 simp only [opE] at hr
 split at hr
 ·rename_i s j n hv hu
  split at hr
  ·rename_i hn
   simp only [Option.bind_eq_some_iff,Option.some.injEq] at hr
   obtain ⟨b,hb,rfl⟩ := hr
   obtain ⟨h1,-⟩ := chkO_spec he hx hv
   obtain ⟨h3,-⟩ := chkO_spec he hy hu
   simp only [RelV] at h1 h3
   exact opOK_val hi (by simp [execOp,ho,Instr.index,underlying,ht,h1,h3,asIntOf,hn,hb]) rfl rfl
  ·cases hr
 ·cases hr
theorem run_slice_slice {t elem : TypeId} {i : TypeInfo} {x : Value} {ad : Option Addr} {len cap : Nat} {esz : Nat} {lo hi mx : Option Value} {l h m : Nat} (ht : P.underlying t = some (.slice elem)) (hei : P.info? elem = some i) (hs : i.size = esz)
  (hx : x = .slice ad len cap) (hlo : lo = none ∧ l = 0 ∨ lo = some (.int .i64 l)) (hhi : hi = none ∧ h = len ∧ mx = none ∨ hi = some (.int .i64 h)) (hmx : mx = none ∧ m = cap ∨ mx = some (.int .i64 m)) (h1 : l ≤ h) (h2 : h ≤ m) (h3 : m ≤ cap) :
  (Instr.sliceAt t x lo hi mx).run P w = .ok (.slice (if m = l then ad else ad.map (·.add (l * esz))) (h - l) (m - l)) w := by
 subst hx
 have hb : (Instr.sliceBounds true len cap lo hi mx).run P w = .ok (l,h,m) w := by
  have e1 : ((l : Int) ≤ h) := by omega
  have e2 : ((h : Int) ≤ m) := by omega
  have e3 : ((m : Int) ≤ cap) := by omega
  rcases hmx with ⟨rfl,rfl⟩ | rfl <;> rcases hhi with ⟨rfl,rfl,hh⟩ | rfl <;> rcases hlo with ⟨rfl,rfl⟩ | rfl <;>
   first
    | (simp at hh; done)
    | (simp [Instr.sliceBounds,Instr.sliceBound,asIntOf,e1,e2,e3,h1,h2,h3]; done)
    | (simp [Instr.sliceBounds,Instr.sliceBound,asIntOf,e1,e2,e3,h1,h2,h3]; intros; omega)
 simp [Instr.sliceAt,Instr.slice,underlying,ht,hb,sizeOf,typeInfo,hei,hs]
def chkOo : Option Opd → Option Operand → Bool
 | none,none => true
 | some x,some y => chkO x y
 | _,_ => false
theorem evo_spec (he : ENV κ σ.length env a.tmps) {x : Option Opd} {y : Option Operand} {v : Option PV} (hc : chkOo x y = true) (hv : evo env x = some v) :
  (v = none ∧ y.map a.eval = none) ∨ ∃ p u,v = some p ∧ y.map a.eval = some u ∧ RelV κ p u := by
 cases x with
 | none =>
  cases y with
  | none => simp [evo] at hv; exact .inl ⟨hv.symm,rfl⟩
  | some y => simp [chkOo] at hc
 | some x =>
  cases y with
  | none => simp [chkOo] at hc
  | some y =>
   simp only [evo,Option.bind_eq_some_iff,Option.some.injEq] at hv
   obtain ⟨p,hp,rfl⟩ := hv
   exact .inr ⟨p,_,rfl,rfl,(chkO_spec he hc hp).1⟩
theorem bound_some {d : PV} {v : Option PV} {u : Option Value} {n : Int} (h : (v = none ∧ u = none) ∨ ∃ p x,v = some p ∧ u = some x ∧ RelV κ p x) (hn : v.getD d = .k (.int .i64 n)) : (v = none ∧ u = none ∧ d = .k (.int .i64 n)) ∨ u = some (.int .i64 n) := by
 rcases h with ⟨rfl,rfl⟩ | ⟨p,x,rfl,rfl,hr⟩
 ·exact .inl ⟨rfl,rfl,hn⟩
 ·simp at hn; subst hn; simp only [RelV] at hr; subst hr; exact .inr rfl
theorem RelE.part {esz b oo : Nat} {es : List (List PV)} (hE : RelE κ esz b oo es) (l n : Nat) : RelE κ esz b (oo + l * esz) ((es.drop l).take n) := RelE.take n (RelE.drop l hE)
theorem sound_slice_sl (hi : INV bars κ σ w) {t elem : TypeId} {i : TypeInfo} {x : Value} {es : List (List PV)} {tt : Bool} {lo hi' mx : Option Value} {l h : Nat} {m : Option Nat} {esz : Nat} (ht : P.underlying t = some (.slice elem)) (hei : P.info? elem = some i) (hs : i.size = esz)
  (hx : ∃ ad cap esz',x = .slice ad es.length cap ∧ es.length ≤ cap ∧ (tt = true → cap = es.length) ∧ (es ≠ [] → ∃ b o,ad = some ⟨b,o,none⟩ ∧ RelE κ esz' b o es)) (hall : allLen esz es = true)
  (hlo : lo = none ∧ l = 0 ∨ lo = some (.int .i64 l)) (hhi : hi' = none ∧ h = es.length ∧ mx = none ∨ hi' = some (.int .i64 h)) (hmx : mx = none ∧ m = none ∨ mx = some (.int .i64 h) ∧ m = some h) (h1 : l ≤ h) (h2 : h ≤ es.length) :
  ∃ y,(Instr.sliceAt t x lo hi' mx).run P w = .ok y w ∧ RelV κ (.sl (match m with | none => tt && decide (h = es.length) | some _ => true) ((es.drop l).take (h - l))) y := by
 obtain ⟨ad,cap,esz',hx,hcap,htt,hE⟩ := hx
 have hlen : ((es.drop l).take (h - l)).length = h - l := by simp; omega
 obtain ⟨mm,hmm,hmle,hmge⟩ : ∃ mm,(mx = none ∧ mm = cap ∨ mx = some (.int .i64 mm)) ∧ mm ≤ cap ∧ h ≤ mm := by
  rcases hmx with ⟨rfl,_⟩ | ⟨rfl,_⟩
  ·exact ⟨cap,.inl ⟨rfl,rfl⟩,Nat.le_refl _,by omega⟩
  ·exact ⟨h,.inr rfl,by omega,Nat.le_refl _⟩
 refine ⟨_,run_slice_slice ht hei hs hx hlo hhi hmm h1 hmge hmle,?_⟩
 refine ⟨_,mm - l,esz',by rw [hlen],by rw [hlen]; omega,fun htrue => ?_,fun hne => ?_⟩
 ·rw [hlen]
  rcases hmx with ⟨rfl,rfl⟩ | ⟨rfl,rfl⟩
  ·simp only [Bool.and_eq_true,decide_eq_true_eq] at htrue
   have := htt htrue.1
   rcases hmm with ⟨_,rfl⟩ | hmm
   ·omega
   ·cases hmm
  ·rcases hmm with ⟨hmm,_⟩ | hmm
   ·cases hmm
   ·simp at hmm; omega
 ·have hne' : es ≠ [] := by rintro rfl; simp at hne
  obtain ⟨b,oo,rfl,hE'⟩ := hE hne'
  have hlt : l < h := by
   rcases Nat.lt_or_ge l h with h' | h'
   ·exact h'
   ·exact absurd (by rw [show h - l = 0 by omega]; simp) hne
  have hesz : esz' = esz := by
   cases es with
   | nil => exact absurd rfl hne'
   | cons e r =>
    simp only [RelE] at hE'
    simp only [allLen,Bool.and_eq_true,decide_eq_true_eq] at hall
    omega
  subst hesz
  refine ⟨b,oo + l * esz',?_,hE'.part l (h - l)⟩
  rw [if_neg (by omega)]
  simp [add_plain]
theorem run_slice_string {t : TypeId} {x : Value} {s : ByteArray} {lo hi : Option Value} {l h : Nat} (ht : P.underlying t = some .string) (hx : x = .string s)
  (hlo : lo = none ∧ l = 0 ∨ lo = some (.int .i64 l)) (hhi : hi = none ∧ h = s.size ∨ hi = some (.int .i64 h)) (h1 : l ≤ h) (h2 : h ≤ s.size) :
  (Instr.sliceAt t x lo hi none).run P w = .ok (.string (s.extract l h)) w := by
 subst hx
 have hb : (Instr.sliceBounds false s.size s.size lo hi none).run P w = .ok (l,h,s.size) w := by
  have e1 : ((l : Int) ≤ h) := by omega
  have e2 : ((h : Int) ≤ s.size) := by omega
  rcases hhi with ⟨rfl,rfl⟩ | rfl <;> rcases hlo with ⟨rfl,rfl⟩ | rfl <;>
   first
    | (simp [Instr.sliceBounds,Instr.sliceBound,asIntOf,e1,e2,h1,h2]; done)
    | (simp [Instr.sliceBounds,Instr.sliceBound,asIntOf,e1,e2,h1,h2]; intros; omega)
 simp [Instr.sliceAt,Instr.slice,underlying,ht,hb]
theorem sound_slice (hi : INV bars κ σ w) (he : ENV κ σ.length env a.tmps) {esz : Nat} {x : Opd} {lo hi' mx : Option Opd} {x' : Operand} {lo' hi'' mx' : Option Operand} {t : TypeId} (hx : chkO x x' = true) (hlo : chkOo lo lo' = true) (hhi : chkOo hi' hi'' = true) (hmx : chkOo mx mx' = true)
  (ht : if esz = 0 then P.underlying t = some .string else ∃ elem i,P.underlying t = some (.slice elem) ∧ P.info? elem = some i ∧ i.size = esz)
  (ho : o.op = .slice t x' lo' hi'' mx') (hr : opE bars env σ (.slice esz x lo hi' mx) = some r) : OpOK bars κ σ w ((execOp a.eval o).run P w) r := by
 simp only [opE,Option.bind_eq_some_iff,Option.some.injEq] at hr
 obtain ⟨v,hv,l,hl,h,hh,m,hm,rr,hrr,rfl⟩ := hr
 obtain ⟨h1,h2⟩ := chkO_spec he hx hv
 have bl := evo_spec he hlo hl
 have bh := evo_spec he hhi hh
 have bm := evo_spec he hmx hm
 have fin : ∀ {y : Value},(Instr.sliceAt t (a.eval x') (lo'.map a.eval) (hi''.map a.eval) (mx'.map a.eval)).run P w = .ok y w → RelV κ rr y → below σ.length rr = true → OpOK bars κ σ w ((execOp a.eval o).run P w) (.val rr σ) := by
  intro y h1 h2 h3
  exact opOK_val hi (by simp [execOp,ho,h1]) h2 h3
 have lo0 : ∀ {n : Int},l.getD (.i 0) = .k (.int .i64 n) → 0 ≤ n → (lo'.map a.eval = none ∧ n.toNat = 0 ∨ lo'.map a.eval = some (.int .i64 (n.toNat : Int))) := by
  intro n hn h0
  rcases bound_some bl hn with ⟨_,hu,hd⟩ | hu
  ·simp at hd; exact .inl ⟨hu,by omega⟩
  ·exact .inr (by rw [hu,Int.toNat_of_nonneg h0])
 have hi0 : ∀ {n : Int} {len : Nat},h.getD (.i len) = .k (.int .i64 n) → 0 ≤ n → (h = none ∧ hi''.map a.eval = none ∧ n.toNat = len) ∨ hi''.map a.eval = some (.int .i64 (n.toNat : Int)) := by
  intro n len hn h0
  rcases bound_some bh hn with ⟨hno,hu,hd⟩ | hu
  ·simp at hd; exact .inl ⟨hno,hu,by omega⟩
  ·exact .inr (by rw [hu,Int.toNat_of_nonneg h0])
 unfold sliceE at hrr
 split at hrr
 ·rename_i s ll hll
  split at hrr
  ·rename_i hhv hhe
   split at hrr
   ·rename_i hc
    obtain ⟨c1,c2,c3,rfl⟩ := hc
    cases hrr
    simp only [if_true] at ht
    simp only [RelV] at h1
    have bm' : mx'.map a.eval = none := by
     rcases bm with ⟨_,hu⟩ | ⟨p,u,hp,_⟩
     ·exact hu
     ·cases hp
    refine fin (y := .string (s.extract ll.toNat _)) ?_ rfl rfl
    rw [bm']
    exact run_slice_string ht h1 (lo0 hll c1) (by rcases hi0 hhe (by omega) with ⟨_,hu,hd⟩ | hu; exact .inl ⟨hu,hd⟩; exact .inr hu) (by omega) (by omega)
   ·cases hrr
  ·cases hrr
 ·rename_i tt es ll hll
  split at hrr
  ·rename_i hhv hhe
   split at hrr
   ·rename_i hc
    obtain ⟨c1,c2,c3,c4,c5⟩ := hc
    rw [if_neg (by omega)] at ht
    obtain ⟨elem,i,ht1,ht2,ht3⟩ := ht
    have hbel : ∀ n k,below.belowEs σ.length ((es.drop n).take k) = true := fun n k => belowEs_of fun e he => belowEs_mem (by simpa [below] using h2) (List.mem_of_mem_drop (List.mem_of_mem_take he))
    split at hrr
    ·cases hrr
     have bm' : mx'.map a.eval = none := by
      rcases bm with ⟨_,hu⟩ | ⟨p,u,hp,_⟩
      ·exact hu
      ·cases hp
     obtain ⟨y,hy1,hy2⟩ := sound_slice_sl (κ := κ) (w := w) hi ht1 ht2 ht3 h1 c4 (lo0 hll c1) (by rcases hi0 hhe (by omega) with ⟨_,hu,hd⟩ | hu; exact .inl ⟨hu,hd,bm'⟩; exact .inr hu) (m := none) (.inl ⟨bm',rfl⟩) (l := ll.toNat) (by omega) (by omega)
     exact fin hy1 hy2 (by simpa [below] using hbel _ _)
    ·rename_i mm
     split at hrr
     ·rename_i hmh
      obtain ⟨rfl,hsome⟩ := hmh
      cases hrr
      have bm' : mx'.map a.eval = some (.int .i64 (mm.toNat : Int)) := by
       rcases bm with ⟨hp,_⟩ | ⟨p,u,hp,hu,hrel⟩
       ·cases hp
       ·cases hp; simp only [RelV] at hrel; rw [hu,hrel,Int.toNat_of_nonneg (by omega)]
      obtain ⟨y,hy1,hy2⟩ := sound_slice_sl (κ := κ) (w := w) hi ht1 ht2 ht3 h1 c4 (lo0 hll c1) (by rcases hi0 hhe (by omega) with ⟨hno,hu,hd⟩ | hu; (rw [hno] at hsome; cases hsome); exact .inr hu) (m := some mm.toNat) (.inr ⟨bm',rfl⟩) (l := ll.toNat) (by omega) (by omega)
      exact fin hy1 hy2 (by simpa [below] using hbel _ _)
     ·cases hrr
    ·cases hrr
   ·cases hrr
  ·cases hrr
 ·rename_i id n es ll hll
  split at hrr
  ·rename_i hhv hhe
   split at hrr
   ·rename_i hc
    obtain ⟨c1,c2,c3,c4,c5⟩ := hc
    rw [if_neg (by omega)] at ht
    obtain ⟨elem,i,ht1,ht2,ht3⟩ := ht
    simp only [below,Bool.and_eq_true,decide_eq_true_eq] at h2
    have hbel : ∀ n k,below.belowEs σ.length ((es.drop n).take k) = true := fun n k => belowEs_of fun e he => belowEs_mem h2.2 (List.mem_of_mem_drop (List.mem_of_mem_take he))
    obtain ⟨hng,ad,cap,esz',hx1,hx2,hx3,hx4⟩ := h1
    have h1' : ∃ ad cap esz',a.eval x' = .slice ad es.length cap ∧ es.length ≤ cap ∧ (false = true → cap = es.length) ∧ (es ≠ [] → ∃ b o,ad = some ⟨b,o,none⟩ ∧ RelE κ esz' b o es) := ⟨ad,cap,esz',hx1,hx2,by simp,hx3⟩
    split at hrr
    ·rename_i k mm hsi
     have bm' : mx'.map a.eval = none := by
      rcases bm with ⟨_,hu⟩ | ⟨p,u,hp,_⟩
      ·exact hu
      ·cases hp
     split at hrr
     ·rename_i hmk
      obtain ⟨hfull,rfl⟩ := hmk
      cases hrr
      have hrun := run_slice_slice (P := P) (w := w) (m := cap) ht1 ht2 ht3 hx1 (lo0 hll c1) (by rcases hi0 hhe (by omega) with ⟨_,hu,hd⟩ | hu; exact .inl ⟨hu,hd,bm'⟩; exact .inr hu) (.inl ⟨bm',rfl⟩) (l := ll.toNat) (by omega) (by omega) (Nat.le_refl _)
      have hdl : (es.drop ll.toNat).length = hhv.toNat - ll.toNat := by simp; omega
      refine fin hrun ⟨hng,_,cap - ll.toNat,k,by rw [hdl],by rw [hdl]; omega,fun hne => ?_,fun hg => ?_⟩ (by simp only [below,Bool.and_eq_true,decide_eq_true_eq]; exact ⟨h2.1,by have := hbel ll.toNat es.length; rwa [List.take_of_length_le (by simp)] at this⟩)
      ·have hne' : es ≠ [] := by rintro rfl; simp at hne
       obtain ⟨b,oo,rfl,hE⟩ := hx3 hne'
       have hesz : esz' = k := by
        cases es with
        | nil => exact absurd rfl hne'
        | cons e r =>
         simp only [RelE] at hE
         simp only [allLen,Bool.and_eq_true,decide_eq_true_eq] at c4
         omega
       subst hesz
       have : ll.toNat < es.length := by
        rcases Nat.lt_or_ge ll.toNat es.length with h | h
        ·exact h
        ·exact absurd (List.drop_eq_nil_of_le h) hne
       exact ⟨b,oo + ll.toNat * esz',by rw [if_neg (by omega)]; simp [add_plain],RelE.drop _ hE⟩
      ·have hl := hx4 hg
       unfold linkOw at hl ⊢
       rw [hdl]
       split
       ·rename_i hnone; rw [hnone] at hl; simp only at hl; omega
       ·rename_i b e f hsome
        rw [hsome] at hl
        simp only at hl
        obtain ⟨hf,hcap,oo,had,hoe⟩ := hl
        obtain ⟨hgen,hkesz,-⟩ := hi.obs id _ hsi
        refine ⟨hf,by omega,oo + ll.toNat * k,?_,?_⟩
        ·rw [if_neg (by omega),had]; simp [add_plain]
        ·rw [hkesz] at hoe ⊢
         rw [← hoe,Nat.add_assoc,← Nat.add_mul]
         congr 2; omega
     ·cases hrr
      obtain ⟨y,hy1,hy2⟩ := sound_slice_sl (κ := κ) (w := w) (tt := false) hi ht1 ht2 ht3 h1' c4 (lo0 hll c1) (by rcases hi0 hhe (by omega) with ⟨_,hu,hd⟩ | hu; exact .inl ⟨hu,hd,bm'⟩; exact .inr hu) (m := none) (.inl ⟨bm',rfl⟩) (l := ll.toNat) (by omega) (by omega)
      exact fin hy1 (by simpa using hy2) (by simpa [below] using hbel _ _)
    ·rename_i mm
     split at hrr
     ·rename_i hmh
      obtain ⟨rfl,hsome⟩ := hmh
      cases hrr
      have bm' : mx'.map a.eval = some (.int .i64 (mm.toNat : Int)) := by
       rcases bm with ⟨hp,_⟩ | ⟨p,u,hp,hu,hrel⟩
       ·cases hp
       ·cases hp; simp only [RelV] at hrel; rw [hu,hrel,Int.toNat_of_nonneg (by omega)]
      obtain ⟨y,hy1,hy2⟩ := sound_slice_sl (κ := κ) (w := w) (tt := false) hi ht1 ht2 ht3 h1' c4 (lo0 hll c1) (by rcases hi0 hhe (by omega) with ⟨hno,hu,hd⟩ | hu; (rw [hno] at hsome; cases hsome); exact .inr hu) (m := some mm.toNat) (.inr ⟨bm',rfl⟩) (l := ll.toNat) (by omega) (by omega)
      exact fin hy1 hy2 (by simpa [below] using hbel _ _)
     ·cases hrr
    ·cases hrr
   ·cases hrr
  ·cases hrr
 ·rename_i id ver off len ll hll
  split at hrr
  ·rename_i hhv vv k es hhe hsi
   split at hrr
   ·rename_i hc
    obtain ⟨c1,c2,c3,rfl,c5⟩ := hc
    cases hrr
    rw [if_neg (by omega)] at ht
    obtain ⟨elem,i,ht1,ht2,ht3⟩ := ht
    obtain ⟨hle,ad,cap,hx1,hx2,hx3⟩ := h1
    have bm' : mx'.map a.eval = none := by
     rcases bm with ⟨_,hu⟩ | ⟨p,u,hp,_⟩
     ·exact hu
     ·cases hp
    have hrun := run_slice_slice (P := P) (w := w) (m := cap) ht1 ht2 ht3 hx1 (lo0 hll c1) (by rcases hi0 hhe (by omega) with ⟨_,hu,hd⟩ | hu; exact .inl ⟨hu,hd,bm'⟩; exact .inr hu) (.inl ⟨bm',rfl⟩) (l := ll.toNat) (by omega) (by omega) (Nat.le_refl _)
    refine fin hrun ⟨hle,_,_,rfl,by omega,fun hg hcp => ?_⟩ (by simpa [below] using h2)
    obtain ⟨e1,e2⟩ := hx3 hg (by omega)
    obtain ⟨-,hkesz,-⟩ := hi.obs id _ hsi
    rw [if_neg (by omega),e1]
    refine ⟨by simp [add_plain,hkesz,Nat.add_mul,Nat.add_assoc],?_⟩
    rwa [show off + ll.toNat + (cap - ll.toNat) = off + cap by omega]
   ·cases hrr
  ·cases hrr
 ·cases hrr
end
end Go.Ev


namespace Go.Ev
variable [CodeRel]
theorem RelE.list {κ : Kn} {k b : Nat} : ∀ {es : List (List PV)} {o : Nat},RelE κ k b o es → ∃ vs : List Value,RelL κ es.flatten vs ∧ (∀ v ∈ vs,v.oneCell' = true) ∧ ∀ j v,vs[j]? = some v → κ.M b (o + j) = some v
 | [],o,_ => ⟨[],rfl,by simp,by simp⟩
 | e :: r,o,h => by
  simp only [RelE] at h
  obtain ⟨us,h1,h2,h3⟩ := RelM.list h.2.1
  obtain ⟨vs,h4,h5,h6⟩ := RelE.list h.2.2
  refine ⟨us ++ vs,RelL.append h1 h4,fun v hv => (List.mem_append.1 hv).elim (h2 v) (h5 v),fun j v hj => ?_⟩
  have hl := h1.length
  rcases Nat.lt_or_ge j us.length with hlt | hge
  ·rw [List.getElem?_append_left hlt] at hj; exact h3 j v hj
  ·rw [List.getElem?_append_right hge] at hj
   have := h6 _ v hj
   rwa [show o + k + (j - us.length) = o + j by omega] at this
theorem RelM.of {κ : Kn} {b : Nat} : ∀ {l : List PV} {o : Nat} {vs : List Value},RelL κ l vs → (∀ j v,vs[j]? = some v → κ.M b (o + j) = some v ∧ v.oneCell' = true) → RelM κ b o l
 | [],_,_,_,_ => by simp [RelM]
 | p :: r,o,vs,h,hm => by
  simp only [RelL] at h
  obtain ⟨v,l',rfl,hv,hl⟩ := h
  simp only [RelM]
  have h0 := hm 0 v rfl
  exact ⟨⟨v,h0.1,h0.2,hv⟩,RelM.of hl fun j u hj => by have := hm (j + 1) u (by simpa using hj); rwa [show o + (j + 1) = o + 1 + j by omega] at this⟩
theorem RelL.split {κ : Kn} : ∀ {l m : List PV} {x : List Value},RelL κ (l ++ m) x → RelL κ l (x.take l.length) ∧ RelL κ m (x.drop l.length)
 | [],m,x,h => ⟨by simp [RelL],by simpa using h⟩
 | p :: r,m,x,h => by
  simp only [List.cons_append,RelL] at h
  obtain ⟨v,l',rfl,hv,hl⟩ := h
  obtain ⟨h1,h2⟩ := RelL.split hl
  exact ⟨⟨v,_,rfl,hv,h1⟩,h2⟩
theorem RelE.of {κ : Kn} {k b : Nat} : ∀ {es : List (List PV)} {o : Nat} {vs : List Value},(∀ e ∈ es,e.length = k) → RelL κ es.flatten vs → (∀ j v,vs[j]? = some v → κ.M b (o + j) = some v ∧ v.oneCell' = true) → RelE κ k b o es
 | [],_,_,_,_,_ => by simp [RelE]
 | e :: r,o,vs,hk,h,hm => by
  rw [List.flatten_cons] at h
  obtain ⟨h1,h2⟩ := RelL.split h
  simp only [RelE]
  have he := hk e (by simp)
  refine ⟨he,RelM.of h1 fun j v hj => hm j v ?_,RelE.of (fun e he => hk e (by simp [he])) h2 fun j v hj => ?_⟩
  ·rw [List.getElem?_take] at hj
   split at hj
   ·exact hj
   ·cases hj
  ·rw [List.getElem?_drop] at hj
   have := hm _ v hj
   rwa [show o + (e.length + j) = o + k + j by omega] at this
section
variable {P : Program} {bars : List Nat} {κ : Kn} {σ : Sto} {w : World} {env : Env} {a : Act} {o : Oper} {r : OpR}
theorem src_cells {k : Nat} {t : TypeId} (ht : ∃ e',P.underlying t = some (.slice e')) {ad : Option Addr} {n c : Nat} {news : List Value} (hl : news.length = n * k)
  (h : n ≠ 0 → ∃ b,ad = some b ∧ ∀ j u,news[j]? = some u → w.cell? (b.add j) = some u) (h1 : ∀ u ∈ news,u.oneCell' = true) : Src P k t (.slice ad n c) n news w := by
 by_cases hn : n = 0
 ·subst hn
  have : news = [] := List.eq_nil_of_length_eq_zero (by simpa using hl)
  subst this
  have hc : ∀ w : World,(Builtin.firstCells k 0 (.slice ad 0 c)).run P w = .ok #[] w := by
   intro w
   cases ad with
   | none => exact run_firstCells_none w k 0 0 c
   | some b => exact run_firstCells_some w k 0 b 0 c [] (by simp) (by simp)
  exact ⟨.inl ht,fun _ => rfl,hc w,hc w.drew,hl,h1⟩
 ·obtain ⟨b,rfl,hb⟩ := h hn
  exact ⟨.inl ht,fun _ => rfl,run_firstCells_some w k n b n c news hl hb,run_firstCells_some w.drew k n b n c news hl (by simpa using hb),hl,h1⟩
theorem src_of (hi : INV bars κ σ w) {k : Nat} {t : TypeId} (ht : ∃ e',P.underlying t = some (.slice e')) {y : PV} {x : Value} {ys : List (List PV)} (h : RelV κ y x) (he : elemsOf σ y = some ys) (hall : allLen k ys = true) :
  ∃ ad cap news,x = .slice ad ys.length cap ∧ ys.length ≤ cap ∧ Src P k t x ys.length news w ∧ RelL κ ys.flatten news := by
 have hlen := allLen_spec hall
 have pers : ∀ {ad : Option Addr} {cap esz' : Nat} {es : List (List PV)},allLen k es = true → (es ≠ [] → ∃ b o,ad = some ⟨b,o,none⟩ ∧ RelE κ esz' b o es) → ∃ news,Src P k t (.slice ad es.length cap) es.length news w ∧ RelL κ es.flatten news := by
  intro ad cap esz' es hall hE
  by_cases hne : es = []
  ·subst hne
   exact ⟨[],src_cells ht (by simp) (by simp) (by simp),rfl⟩
  ·obtain ⟨b,oo,rfl,hE'⟩ := hE hne
   obtain ⟨news,h1,h2,h3⟩ := RelE.list hE'
   refine ⟨news,src_cells ht ?_ (fun _ => ⟨_,rfl,fun j u hj => ?_⟩) h2,h1⟩
   ·rw [← h1.length,flat_len (allLen_spec hall)]
   ·rw [add_plain]; exact hi.mem _ _ _ (h3 j u hj)
 unfold elemsOf at he
 split at he
 ·rename_i t' es
  cases he
  obtain ⟨ad,cap,esz',rfl,hc,-,hE⟩ := h
  obtain ⟨news,h1,h2⟩ := pers (cap := cap) hall hE
  exact ⟨ad,cap,news,rfl,hc,h1,h2⟩
 ·rename_i id n es
  cases he
  obtain ⟨-,ad,cap,esz',rfl,hc,hE,-⟩ := h
  obtain ⟨news,h1,h2⟩ := pers (cap := cap) hall hE
  exact ⟨ad,cap,news,rfl,hc,h1,h2⟩
 ·rename_i ad cap
  cases he
  simp only [RelV] at h
  subst h
  exact ⟨ad,cap,[],rfl,Nat.zero_le _,src_cells ht (by simp) (by simp) (by simp),rfl⟩
 ·rename_i id ver off len
  split at he
  ·rename_i v kk es hs
   split at he
   ·rename_i hv
    obtain ⟨rfl,hle⟩ := hv
    cases he
    obtain ⟨hg,hk,⟨c,T,hc,hes,hone,pre,post,vs,hcl,hpre,hrel⟩,-⟩ := hi.obs id _ hs
    obtain ⟨-,ad,cap,rfl,hlc,hl⟩ := h
    have hl := hl hg
    have hn : ((es.drop off).take len).length = len := by simp; omega
    have hes' : ∀ e ∈ (es.drop off).take len,e.length = kk := fun e he => hes e (List.mem_of_mem_drop (List.mem_of_mem_take he))
    rw [hn]
    by_cases h0 : len = 0
    ·subst h0
     exact ⟨ad,cap,[],rfl,hlc,src_cells ht (by simp) (by simp) (by simp),by simp [RelL]⟩
    ·have hkk : kk = k := by
      cases hd : (es.drop off).take len with
      | nil => rw [hd] at hn; simp at hn; omega
      | cons e r => rw [← hes' e (by rw [hd]; simp),hlen e (by rw [hd]; simp)]
     subst hkk
     obtain ⟨rfl,-⟩ := hl (by omega)
     have hr : RelL κ ((es.drop off).take len).flatten ((vs.drop (off * kk)).take (len * kk)) := by
      rw [flat_take len fun e he => hes e (List.mem_of_mem_drop he),flat_drop off hes]
      exact RelL.take _ (RelL.drop _ hrel)
     refine ⟨_,cap,_,rfl,hlc,src_cells ht ?_ (fun _ => ⟨_,rfl,fun j u hj => ?_⟩) (fun u hu => hone u ?_),hr⟩
     ·rw [← hr.length,flat_len hes',hn]
     ·rw [add_plain,cell_of_row hc,hk,← Array.getElem?_toList,hcl]
      rw [List.getElem?_take] at hj
      split at hj
      ·rw [List.getElem?_drop] at hj
       have hlt := (List.getElem?_eq_some_iff.1 hj).1
       rw [List.append_assoc,List.getElem?_append_right (by omega),List.getElem?_append_left (by omega),← hj]
       congr 1; omega
      ·cases hj
     ·rw [hcl]
      have := List.mem_of_mem_drop (List.mem_of_mem_take hu)
      simp [this]
   ·cases he
  ·cases he
 ·cases he
end
end Go.Ev


namespace Go.Ev
variable [CodeRel]
theorem RelE.append {κ : Kn} {k b : Nat} : ∀ {es : List (List PV)} {o : Nat} {ys : List (List PV)},RelE κ k b o es → RelE κ k b (o + es.length * k) ys → RelE κ k b o (es ++ ys)
 | [],o,ys,_,h => by simpa using h
 | e :: r,o,ys,h,h' => by
  simp only [RelE,List.cons_append] at *
  refine ⟨h.1,h.2.1,RelE.append h.2.2 ?_⟩
  rwa [show o + k + r.length * k = o + (e :: r).length * k by simp [Nat.succ_mul]; omega]
theorem belowEs_take {n m : Nat} {l : List (List PV)} (h : below.belowEs n l = true) : below.belowEs n (l.take m) = true := belowEs_of fun e he => belowEs_mem h (List.mem_of_mem_take he)
theorem belowEs_drop {n m : Nat} {l : List (List PV)} (h : below.belowEs n l = true) : below.belowEs n (l.drop m) = true := belowEs_of fun e he => belowEs_mem h (List.mem_of_mem_drop he)
theorem setCells_row {w : World} {b o : Nat} {vs : List Value} {c : Array Value} {T : TypeId} (hc : w.heap[b]? = some (.cells c T (0,0))) (hle : o + vs.length ≤ c.size) (h1 : ∀ v ∈ vs,v.oneCell' = true) :
  w.setCells b o vs = w.setRow b (c.toList.take o ++ vs ++ c.toList.drop (o + vs.length)).toArray := by
 have h2 := run_storeCells_at (P := default) b o T vs 0 c w hc (by simpa using hle) h1
 have h3 := run_storeCells_cells (P := default) b o vs 0 w (fun j hj => by rw [cell_of_row hc]; simp; omega) (fun j hj => frozen_of_row w b _ c T hc) h1
 rw [h2] at h3
 simp only [Nat.add_zero] at h3
 have := (Result.ok.inj h3).2
 exact this.symm
theorem alloc_heap (w : World) (o : Obj) : (w.drew.alloc o).heap = w.heap.push o := rfl
section
variable {P : Program} {bars : List Nat} {κ : Kn} {σ : Sto} {w : World} {env : Env} {a : Act} {o : Oper} {r : OpR}
theorem elemsOf_below (hi : INV bars κ σ w) {y : PV} {ys : List (List PV)} (hb : below σ.length y = true) (h : elemsOf σ y = some ys) : below.belowEs σ.length ys = true := by
 unfold elemsOf at h
 split at h
 ·cases h; exact hb
 ·cases h; simp only [below,Bool.and_eq_true] at hb; exact hb.2
 ·cases h; rfl
 ·split at h
  ·rename_i v k es hs
   split at h
   ·cases h
    exact belowEs_take (belowEs_drop (belowEs_mono (Nat.zero_le _) _ (hi.wf _ _ hs)))
   ·cases h
  ·cases h
 ·cases h
def Kn.know (κ : Kn) (b : Nat) (all : List Value) : Kn := { κ with M := fun b' o => if b' = b then all[o]? else κ.M b' o }
def Kn.grew (κ : Kn) (id n : Nat) (t : Option (Nat × Nat × Nat)) : Kn := { κ with gen := fun j => if j = id then n else κ.gen j,tok := fun j => if j = id then t else κ.tok j }
theorem grown_rel {κ κ' : Kn} {n B k : Nat} {zs : List (List PV)} {all : List Value} (hk : ∀ e ∈ zs,e.length = k) (hr : RelL κ zs.flatten all) (h1 : ∀ u ∈ all,u.oneCell' = true) (hb : below.belowEs n zs = true) (he : Ext n κ κ') (hM : ∀ o,κ'.M B o = all[o]?) :
  RelE κ' k B 0 zs :=
 RelE.of hk (RelL.mono he _ _ (by rw [belowEs_flatten]; exact hb) hr) fun j v hj => by
  refine ⟨by rw [Nat.zero_add,hM,hj],h1 v (List.mem_of_getElem? hj)⟩
theorem own_tok {κ : Kn} {σ : Sto} {id k n : Nat} (h : σ[id]? = some (.tok k n)) : own κ σ id = (κ.tok id).map (·.1) := by rw [own_eq h]; rfl
theorem fits {n b : Nat} (h : n ≤ LIM) (hb : b ≤ 32768) : n * b ≤ 140737488355328 := by
 have := Nat.mul_le_mul h hb
 unfold LIM at this
 simpa using this
theorem zero_one {z : Array Value} (n : Nat) (hz : 0 < z.size) (h : z.toList.all Value.oneCell' = true) : ∀ v ∈ (Builtin.zeroCells z n).toList,v.oneCell' = true := by
 intro v hv
 simp only [Builtin.zeroCells,Array.toList_map,List.mem_map] at hv
 obtain ⟨i,-,rfl⟩ := hv
 rw [List.all_eq_true] at h
 apply h
 have : i % z.size < z.size := Nat.mod_lt _ hz
 rw [getElem!_pos z _ this]
 simp
theorem sound_app0 (hi : INV bars κ σ w) (he : ENV κ σ.length env a.tmps) {esz : Nat} {x : Opd} {x' y' : Operand} {t tx elem : TypeId} {i : TypeInfo} {z : Value} (hx : chkO x x' = true)
  (ht : P.underlying t = some (.slice elem)) (hei : P.info? elem = some i) (hs : i.size = esz) (hz : i.zero = some z) (hzs : z.cells.size = esz) (hz1 : z.cells.toList.all Value.oneCell' = true) (hby : i.bytes ≤ 32768) (hpos : 0 < esz)
  (ho : o.op = .call { callee := .builtin .append,args := #[x',y'],argTypes := #[t,tx] }) {v : PV} (hv : ev env x = some v) {xs ys : List (List PV)} (hxs : elemsOf σ v = some xs) (hall1 : allLen esz xs = true)
  {news : List Value} (hylen : ∀ e ∈ ys,e.length = esz) (hsrc : Src P esz tx (a.eval y') ys.length news w) (hnews : RelL κ ys.flatten news) (hyb : below.belowEs σ.length ys = true) {pv : PV} {σ' : Sto} (happ : appE esz σ v ys = some (pv,σ')) :
  OpOK bars κ σ w ((execOp a.eval o).run P w) (.val pv σ') := by
  obtain ⟨h1,h2⟩ := chkO_spec he hx hv
  obtain ⟨adx,capx,olds,hxv,hcx,hsrcx,holds⟩ := src_of hi ⟨_,ht⟩ h1 hxs hall1
  have hxb := elemsOf_below hi h2 hxs
  have hxlen := allLen_spec hall1
  have hnl : news.length = ys.length * esz := hsrc.newsLen
  have hol : olds.length = xs.length * esz := hsrcx.newsLen
  subst hs
  have none0 : ys.length = 0 → (execOp a.eval o).run P w = .ok (.value (a.eval x')) w := by
   intro h0
   have hn0 : news = [] := List.eq_nil_of_length_eq_zero (by rw [hnl,h0]; simp)
   have hrun : (Builtin.append_ #[t,tx] o.type #[.slice adx xs.length capx,a.eval y']).run P w = .ok (.slice adx xs.length capx) w := by
    have hc := hsrc.cells
    rw [h0,hn0] at hc
    have hlen := hsrc.len
    rw [h0] at hlen
    rcases hsrc.kind with ⟨e',hk⟩ | hk <;>
    cases adx <;> simp [Builtin.append_,run_underlying ht,run_underlying hk,sizeOf,typeInfo,hei,hlen,hcx,hc,storeCells]
   simp [execOp,ho,resolve,invoke,builtin,hxv,hrun]
  have grow : capx < xs.length + ys.length → xs.length + ys.length ≤ LIM →
    (execOp a.eval o).run P w = .ok (.value (.slice (some ⟨w.heap.size,0,none⟩) (xs.length + ys.length) (grownCap w (xs.length + ys.length) capx elem)))
     (w.drew.alloc (.cells ((olds ++ news).toArray ++ Builtin.zeroCells z.cells (grownCap w (xs.length + ys.length) capx elem - (xs.length + ys.length))) elem)) := by
   intro hg hlim
   have hcd := hsrcx.cellsD
   rw [hxv] at hcd
   have hrun := run_append_grow_src (P := P) w t tx o.type elem i z ht hei hz adx xs.length capx olds hcd (a.eval y') ys.length news hsrc hg (by unfold LIM at hlim; omega) (growslice_fits hg (fits hlim hby))
   simp [execOp,ho,resolve,invoke,builtin,hxv,hrun]
  have hge := grownCap_ge w (xs.length + ys.length) capx elem
  generalize hG : grownCap w (xs.length + ys.length) capx elem = G at hge grow
  have hrel : RelL κ (xs ++ ys).flatten (olds ++ news) := by rw [List.flatten_append]; exact RelL.append holds hnews
  have hone : ∀ u ∈ olds ++ news,u.oneCell' = true := fun u hu => (List.mem_append.1 hu).elim (hsrcx.one u) (hsrc.one u)
  have hbb : below.belowEs σ.length (xs ++ ys) = true := by rw [belowEs_append,hxb,hyb]; rfl
  have hlen : ∀ e ∈ xs ++ ys,e.length = i.size := fun e he => (List.mem_append.1 he).elim (hxlen e) (hylen e)
  have hal : (olds ++ news).length = (xs.length + ys.length) * i.size := by rw [List.length_append,hol,hnl,Nat.add_mul]
  have hfresh : ∀ o,κ.M w.heap.size o = none := hi.M_fresh (Nat.le_refl _)
  generalize hall : olds ++ news = all at grow hrel hone hal
  generalize hrow : all.toArray ++ Builtin.zeroCells z.cells (G - (xs.length + ys.length)) = row at grow
  have hrs : row.size = G * i.size := by
   rw [← hrow,Array.size_append,size_zeroCells,hzs]
   simp only [List.size_toArray,hal]
   rw [← Nat.add_mul]; congr 1; omega
  have hrowat : ∀ j,j < all.length → row[j]? = all[j]? := by
   intro j hj
   rw [← hrow,Array.getElem?_append_left (by simpa using hj)]
   simp
  have hrow1 : ∀ v ∈ row.toList,v.oneCell' = true := by
   intro v hv
   rw [← hrow,Array.toList_append,List.mem_append] at hv
   rcases hv with hv | hv
   ·exact hone v (by simpa using hv)
   ·exact zero_one _ (by omega) hz1 v hv
  have hnewcell : ∀ o v,all[o]? = some v → (w.drew.alloc (.cells row elem)).cell? ⟨w.heap.size,o,none⟩ = some v := by
   intro o v hv
   have hlt := (List.getElem?_eq_some_iff.1 hv).1
   have : (w.drew.alloc (.cells row elem)).heap[w.heap.size]? = some (.cells row elem (0,0)) := by simp [alloc_heap]
   rw [cell_of_row this,hrowat o hlt,hv]
  have holdcell : ∀ b o v,κ.M b o = some v → (w.drew.alloc (.cells row elem)).cell? ⟨b,o,none⟩ = some v := by
   intro b o v hm
   have hlt := cell_lt (hi.mem b o v hm)
   have := hi.mem b o v hm
   simp only [World.cell?,alloc_heap,heap_push_lt hlt] at this ⊢
   exact this
  have holdcap : ∀ b,0 < κ.cap b → ∃ c T fr,(w.drew.alloc (.cells row elem)).heap[b]? = some (.cells c T fr) ∧ κ.cap b ≤ c.size := by
   intro b hb
   obtain ⟨c,T,fr,h,hsz⟩ := hi.cap b hb
   exact ⟨c,T,fr,by rw [alloc_heap,heap_push_lt (Array.getElem?_eq_some_iff.1 h).1]; exact h,hsz⟩
  unfold appE at happ
  split at happ
  ·-- a plain slice
   rename_i tt es
   simp only [elemsOf,Option.some.injEq] at hxs
   subst hxs
   split at happ
   ·rename_i h0
    cases happ
    exact opOK_val hi (none0 h0) h1 h2
   ·rename_i h0
    split at happ
    ·rename_i htl
     obtain ⟨rfl,hlim⟩ := htl
     cases happ
     obtain ⟨ad,cap,esz',hx',-,ht',-⟩ := h1
     have hcapx : capx = es.length := by
      rw [hxv] at hx'
      cases hx'
      exact ht' rfl
     have hg : capx < es.length + ys.length := by omega
     have hext : Ext σ.length κ (κ.know w.heap.size all) := by
      refine ⟨fun _ _ _ => rfl,fun _ _ => rfl,fun _ _ => Nat.le_refl _,fun _ _ _ => rfl,fun b o v hm => ?_,fun _ => Nat.le_refl _⟩
      simp only [Kn.know]
      rw [if_neg (by rintro rfl; rw [hfresh] at hm; cases hm)]
      exact hm
     obtain ⟨h5,h6⟩ := INV.more (w' := w.drew.alloc (.cells row elem)) (κ' := κ.know w.heap.size all) hi hext (fun _ _ => rfl) (by simp [alloc_heap]) (fun b hb => by rw [alloc_heap]; exact heap_push_lt hb)
      (fun b hb o => by simp only [Kn.know]; rw [if_neg (by omega)]) (fun b o v hm => by
       simp only [Kn.know] at hm
       split at hm
       ·rename_i hb; subst hb; exact hnewcell o v hm
       ·exact holdcell b o v hm) holdcap rfl rfl rfl
     refine ⟨_,_,_,.inl (grow hg hlim),⟨_,_,i.size,by rw [List.length_append],by rw [List.length_append]; exact hge,by simp,fun _ => ⟨_,_,rfl,?_⟩⟩,by simpa [below] using hbb,h5,h6,Nat.le_refl _⟩
     exact grown_rel hlen hrel hone hbb hext fun o => by simp [Kn.know]
    ·cases happ
  ·-- a slice with rights
   rename_i id n es
   simp only [elemsOf,Option.some.injEq] at hxs
   subst hxs
   split at happ
   ·rename_i k m hsi
    split at happ
    ·rename_i hc
     obtain ⟨rfl,rfl,hpy,hlim⟩ := hc
     cases happ
     have hidlt : id < σ.length := (List.getElem?_eq_some_iff.1 hsi).1
     obtain ⟨hng,ad,cap,esz',hx',hcap,hE,hlink⟩ := h1
     obtain ⟨hgen,hke,htok⟩ := hi.obs id _ hsi
     have hlink := hlink hgen
     rw [hxv] at hx'
     cases hx'
     have hext : ∀ (tk : Option (Nat × Nat × Nat)) (M' : Nat → Nat → Option Value),(∀ b o v,κ.M b o = some v → M' b o = some v) → Ext σ.length κ { (κ.grew id (m + ys.length) tk) with M := M' } := by
      intro tk M' hM
      refine ⟨fun _ _ _ => rfl,fun _ _ => rfl,fun j hj => ?_,fun j hj hg => ?_,hM,fun _ => Nat.le_refl _⟩
      ·simp only [Kn.grew]; split
       ·rename_i h; subst h; omega
       ·exact Nat.le_refl _
      ·simp only [Kn.grew] at hg ⊢
       split at hg
       ·rename_i h; subst h; omega
       ·rename_i h; rw [if_neg h]
     have hgt : ∀ (tk : Option (Nat × Nat × Nat)) (M' : Nat → Nat → Option Value) j,j < σ.length → j ≠ id → ({ (κ.grew id (m + ys.length) tk) with M := M' } : Kn).gen j = κ.gen j := by
      intro tk M' j _ hj
      simp only [Kn.grew,if_neg hj]
     have growOw : capx < es.length + ys.length → OpOK bars κ σ w ((execOp a.eval o).run P w) (.val (.ow id (m + ys.length) (es ++ ys)) (σ.set id (.tok i.size (m + ys.length)))) := by
      intro hg
      let tk : Option (Nat × Nat × Nat) := if G = es.length + ys.length then none else some (w.heap.size,(es.length + ys.length) * i.size,G - (es.length + ys.length))
      let M' : Nat → Nat → Option Value := fun b' o => if b' = w.heap.size then all[o]? else κ.M b' o
      have hMext : ∀ b o v,κ.M b o = some v → M' b o = some v := by
       intro b o v hm
       simp only [M']
       rw [if_neg (by rintro rfl; rw [hfresh] at hm; cases hm)]
       exact hm
      have hE' := hext tk M' hMext
      have htk : ∀ b e f,tk = some (b,e,f) → b = w.heap.size ∧ e = (es.length + ys.length) * i.size ∧ f = G - (es.length + ys.length) ∧ 0 < f := by
       intro b e f h
       simp only [tk] at h
       split at h
       ·cases h
       ·simp only [Option.some.injEq,Prod.mk.injEq] at h
        obtain ⟨rfl,rfl,rfl⟩ := h
        exact ⟨rfl,rfl,rfl,by omega⟩
      obtain ⟨h5,h6⟩ := INV.one (w' := w.drew.alloc (.cells row elem)) (κ' := { (κ.grew id (m + ys.length) tk) with M := M' }) (σ' := σ.set id (.tok i.size (m + ys.length))) hi id (.tok i.size (m + ys.length)) (by omega) (by simp; omega) (sto_set_get hidlt) (fun j hj => sto_set_other hj)
       hE' (hgt tk M') (by simp [alloc_heap]) (fun b hb _ => by rw [alloc_heap]; exact heap_push_lt hb)
       (fun b hb _ o => by simp only [M']; rw [if_neg (by omega)])
       (by
        refine ⟨by simp [Kn.grew],by simpa [Kn.grew] using hke,fun b e f h => ?_⟩
        simp only [Kn.grew,if_true] at h
        obtain ⟨rfl,rfl,rfl,hf⟩ := htk b e f h
        refine ⟨⟨row,elem,by simp [alloc_heap],by rw [hrs,← Nat.add_mul]; exact Nat.mul_le_mul_right _ (by omega)⟩,fun o ho => ?_⟩
        simp only [M',if_true]
        exact List.getElem?_eq_none (by omega))
       (fun b hb => by
        simp only [blkOf,Kn.grew,if_true,Option.map_eq_some_iff] at hb
        obtain ⟨⟨b',e,f⟩,h,rfl⟩ := hb
        obtain ⟨rfl,-⟩ := htk _ e f h
        exact .inr (Nat.le_refl _))
       (fun b o v hm => by
        simp only [M'] at hm
        split at hm
        ·rename_i hb; subst hb; exact hnewcell o v hm
        ·exact holdcell b o v hm)
       holdcap rfl (fun _ _ _ => rfl) rfl rfl rfl
      refine ⟨_,_,_,.inl (grow hg hlim),⟨by simp [Kn.grew],_,G,i.size,by rw [List.length_append],by rw [List.length_append]; exact hge,fun _ => ⟨_,_,rfl,?_⟩,fun _ => ?_⟩,by simp only [below,Bool.and_eq_true,decide_eq_true_eq,List.length_set]; exact ⟨hidlt,hbb⟩,h5,h6,by simp⟩
      ·exact grown_rel hlen hrel hone hbb hE' fun o => by simp [M']
      ·simp only [linkOw,Kn.grew,if_true,tk,List.length_append]
       split
       ·rename_i h
        split at h
        ·omega
        ·cases h
       ·rename_i b e f h
        obtain ⟨rfl,rfl,rfl,hf⟩ := htk b e f (by simpa only [tk] using h)
        refine ⟨hf,by omega,0,rfl,?_⟩
        rw [hke]; simp
     unfold linkOw at hlink
     split at hlink
     ·exact growOw (by omega)
     ·rename_i b e f htk
      obtain ⟨hf,rfl,oo,rfl,hoe⟩ := hlink
      by_cases hroom : ys.length ≤ f
      ·rw [hke] at hoe
       obtain ⟨⟨c,T,hc,hcs⟩,hMn⟩ := htok b e f htk
       have hmul : ys.length * i.size ≤ f * i.size := Nat.mul_le_mul_right _ hroom
       have hpm : 0 < ys.length * i.size := Nat.mul_pos hpy hpos
       have hrun := run_append_room_src (P := P) w t tx o.type elem i ht hei b oo es.length (es.length + f) (a.eval y') ys.length news hsrc (by omega) (fun j hj => by rw [cell_of_row hc]; simp; omega) (fun j hj => frozen_of_row w b _ c T hc)
       rw [hoe,setCells_row hc (by omega) hsrc.one] at hrun
       let tk : Option (Nat × Nat × Nat) := if f = ys.length then none else some (b,e + ys.length * i.size,f - ys.length)
       let M' : Nat → Nat → Option Value := fun b' o => if b' = b ∧ e ≤ o ∧ o < e + ys.length * i.size then news[o - e]? else κ.M b' o
       have hMext : ∀ b o v,κ.M b o = some v → M' b o = some v := by
        intro b' o v hm
        simp only [M']
        split
        ·rename_i h
         obtain ⟨rfl,h1,h2⟩ := h
         rw [hMn o h1] at hm; cases hm
        ·exact hm
       have hE' := hext tk M' hMext
       have htk' : ∀ b' e' f',tk = some (b',e',f') → b' = b ∧ e' = e + ys.length * i.size ∧ f' = f - ys.length ∧ 0 < f' := by
        intro b' e' f' h
        simp only [tk] at h
        split at h
        ·cases h
        ·simp only [Option.some.injEq,Prod.mk.injEq] at h
         obtain ⟨rfl,rfl,rfl⟩ := h
         exact ⟨rfl,rfl,rfl,by omega⟩
       have hown : own κ σ id = some b := by rw [own_tok hsi,htk]; rfl
       generalize hc' : (c.toList.take e ++ news ++ c.toList.drop (e + news.length)).toArray = c' at hrun
       have hcs' : c'.size = c.size := by rw [← hc']; simp; omega
       have hrowb : (w.setRow b c').heap[b]? = some (.cells c' T (0,0)) := setRow_heap _ _ _ _ _ _ hc
       have hc'in : ∀ j,j < news.length → c'[e + j]? = news[j]? := by
        intro j hj
        have hte : (c.toList.take e).length = e := by simp; omega
        rw [← hc',List.append_assoc]
        simp only [List.getElem?_toArray]
        rw [List.getElem?_append_right (by omega),List.getElem?_append_left (by omega)]
        congr 1; omega
       have hc'out : ∀ o,o < e → c'[o]? = c[o]? := by
        intro o ho
        have hte : (c.toList.take e).length = e := by simp; omega
        rw [← hc',List.append_assoc]
        simp only [List.getElem?_toArray]
        rw [List.getElem?_append_left (by omega),List.getElem?_take,if_pos ho]
        simp
       obtain ⟨h5,h6⟩ := INV.one (w' := w.setRow b c') (κ' := { (κ.grew id (m + ys.length) tk) with M := M' }) (σ' := σ.set id (.tok i.size (m + ys.length))) hi id (.tok i.size (m + ys.length)) (by omega) (by simp; omega) (sto_set_get hidlt) (fun j hj => sto_set_other hj)
        hE' (hgt tk M') (by rw [setRow_size]; exact Nat.le_refl _) (fun b' hb' hno => setRow_other _ _ _ _ (fun e => hno (by rw [hown,e])))
        (fun b' hb' hno o => by
         simp only [M']
         rw [if_neg (by rintro ⟨rfl,-⟩; exact hno hown)])
        (by
         refine ⟨by simp [Kn.grew],by simpa [Kn.grew] using hke,fun b' e' f' h => ?_⟩
         simp only [Kn.grew,if_true] at h
         obtain ⟨rfl,rfl,rfl,hf'⟩ := htk' b' e' f' h
         refine ⟨⟨c',T,hrowb,?_⟩,fun o ho => ?_⟩
         ·have : ys.length * i.size + (f - ys.length) * i.size = f * i.size := by rw [← Nat.add_mul]; congr 1; omega
          omega
         ·simp only [M']
          rw [if_neg (by omega)]
          exact hMn o (by omega))
        (fun b' hb' => by
         simp only [blkOf,Kn.grew,if_true,Option.map_eq_some_iff] at hb'
         obtain ⟨⟨b'',e',f'⟩,h,rfl⟩ := hb'
         obtain ⟨rfl,-⟩ := htk' _ e' f' h
         exact .inl hown)
        (fun b' o v hm => by
         simp only [M'] at hm
         split at hm
         ·rename_i h
          obtain ⟨rfl,h1,h2⟩ := h
          have := hc'in (o - e) (by omega)
          rw [show e + (o - e) = o by omega] at this
          rw [cell_of_row hrowb,this,hm]
         ·rename_i h
          by_cases hb : b' = b
          ·subst hb
           have hlt : o < e := by
            rcases Nat.lt_or_ge o e with h' | h'
            ·exact h'
            ·rw [hMn o h'] at hm; cases hm
           have := hi.mem _ _ _ hm
           rw [cell_of_row hrowb,hc'out o hlt]
           rwa [cell_of_row hc] at this
          ·rw [cell_setRow_other _ _ _ _ (by simpa using hb)]; exact hi.mem _ _ _ hm)
        (fun b' hcap' => by
         obtain ⟨d,T',fr,hd,hsz'⟩ := hi.cap b' hcap'
         by_cases hbb' : b' = b
         ·subst hbb'
          rw [hc] at hd; cases hd
          exact ⟨c',T,(0,0),hrowb,(show κ.cap b' ≤ c'.size by omega)⟩
         ·exact ⟨d,T',fr,by rw [setRow_other _ _ _ _ hbb']; exact hd,hsz'⟩)
        rfl (fun _ _ _ => rfl) rfl rfl rfl
       refine ⟨_,_,.slice (some ⟨b,oo,none⟩) (es.length + ys.length) (es.length + f),.inl ?_,⟨by simp [Kn.grew],_,_,i.size,by rw [List.length_append],by rw [List.length_append]; omega,fun _ => ⟨_,_,rfl,?_⟩,fun _ => ?_⟩,by simp only [below,Bool.and_eq_true,decide_eq_true_eq,List.length_set]; exact ⟨hidlt,hbb⟩,h5,h6,by simp⟩
       ·simp [execOp,ho,resolve,invoke,builtin,hxv,hrun]
       ·refine RelE.append ?_ (RelE.of (vs := news) hylen (RelL.mono hE' _ _ (by rw [belowEs_flatten]; exact hyb) hnews) fun j v hj => ⟨?_,hsrc.one v (List.mem_of_getElem? hj)⟩)
        ·by_cases hne : es = []
         ·subst hne; simp [RelE]
         ·obtain ⟨b1,o1,hbo,hE1⟩ := hE hne
          cases hbo
          have hesz : esz' = i.size := by
           cases es with
           | nil => exact absurd rfl hne
           | cons e1 r1 =>
            simp only [RelE] at hE1
            have := hxlen e1 (by simp)
            omega
          subst hesz
          exact RelE.mono hE' _ _ _ _ hxb hE1
        ·have hlt := (List.getElem?_eq_some_iff.1 hj).1
         simp only [M']
         rw [if_pos ⟨trivial,by omega,by omega⟩,show oo + es.length * i.size + j - e = j by omega,hj]
       ·simp only [linkOw,Kn.grew,if_true,tk,List.length_append]
        split
        ·rename_i h
         split at h
         ·omega
         ·cases h
        ·rename_i b' e' f' h
         obtain ⟨rfl,rfl,rfl,hf'⟩ := htk' b' e' f' (by simpa only [tk] using h)
         refine ⟨hf',by omega,oo,rfl,?_⟩
         rw [hke,Nat.add_mul]; omega
      ·exact growOw (by omega)
    ·split at happ
     ·rename_i h0
      cases happ
      exact opOK_val hi (none0 h0) h1 h2
     ·cases happ
   ·cases happ
  ·-- an array
   rename_i id ver off len
   split at happ
   ·rename_i v k es hsi
    split at happ
    ·rename_i hc
     obtain ⟨rfl,rfl,rfl,hpy,hle,hlim,hy0⟩ := hc
     cases happ
     have hidlt : id < σ.length := (List.getElem?_eq_some_iff.1 hsi).1
     obtain ⟨hgen,hke,⟨c,T,hc,hes,hone',pre,post,vs,hcl,hpre,hrv⟩,hMn⟩ := hi.obs id _ hsi
     obtain ⟨-,ad,cap,hx',hcap,hlink⟩ := h1
     have hlink := hlink hgen
     rw [hxv] at hx'
     have hxs' : xs = es.take len := by
      simp only [elemsOf,hsi] at hxs
      split at hxs
      ·simp at hxs; exact hxs.symm
      ·cases hxs
     have hxl : xs.length = len := by rw [hxs']; simp; omega
     injection hx' with e1 e2 e3
     subst e1; subst e3; clear e2
     have hext : ∀ (ρ' : Nat → Nat × Nat) (cap' : Nat → Nat),(∀ j,j ≠ id → ρ' j = κ.ρ j) → (∀ b,κ.cap b ≤ cap' b) → Ext σ.length κ { (κ.grew id (v + 1) (κ.tok id)) with ρ := ρ',cap := cap' } := by
      intro ρ' cap' hρ hcp
      refine ⟨fun j hj hg => ?_,fun _ _ => rfl,fun j hj => ?_,fun j hj hg => ?_,fun _ _ _ h => h,hcp⟩
      ·simp only [Kn.grew] at hg ⊢
       split at hg
       ·rename_i h; subst h; omega
       ·rename_i h; exact hρ j h
      ·simp only [Kn.grew]; split
       ·rename_i h; subst h; omega
       ·exact Nat.le_refl _
      ·simp only [Kn.grew]; split
       ·rename_i h; subst h; rfl
       ·rfl
     have hgt : ∀ (ρ' : Nat → Nat × Nat) (cap' : Nat → Nat) j,j < σ.length → j ≠ id → ({ (κ.grew id (v + 1) (κ.tok id)) with ρ := ρ',cap := cap' } : Kn).gen j = κ.gen j := by
      intro ρ' cap' j _ hj
      simp only [Kn.grew,if_neg hj]
     have hvl : vs.length = es.length * i.size := by rw [← hrv.length,flat_len hes]
     have hobk : ∀ e ∈ es.take len ++ ys,e.length = i.size := fun e he => (List.mem_append.1 he).elim (fun h => hes e (List.mem_of_mem_take h)) (hylen e)
     have hwfe : below.belowEs 0 es = true := hi.wf _ _ hsi
     have hlen0 : ∀ (ρ' : Nat → Nat × Nat) (cap' : Nat → Nat) (oldv : List Value),Ext σ.length κ { (κ.grew id (v + 1) (κ.tok id)) with ρ := ρ',cap := cap' } → RelL κ (es.take len).flatten oldv → RelL { (κ.grew id (v + 1) (κ.tok id)) with ρ := ρ',cap := cap' } (es.take len ++ ys).flatten (oldv ++ news) := by
      intro ρ' cap' oldv hE ho
      rw [List.flatten_append]
      exact RelL.append (RelL.mono hE _ _ (by rw [belowEs_flatten]; exact belowEs_mono (Nat.zero_le _) _ (belowEs_take hwfe)) ho) (RelL.mono hE _ _ (by rw [belowEs_flatten]; exact hyb) hnews)
     by_cases hroom : len + ys.length ≤ capx
     ·obtain ⟨rfl,hcp⟩ := hlink (by omega)
      simp only [Nat.zero_mul,Nat.add_zero,Nat.zero_add] at hcp hxv
      rw [hke] at hcp
      have hpm : 0 < capx * i.size := Nat.mul_pos (by omega) hpos
      obtain ⟨d,T',fr,hd,hds⟩ := hi.cap (κ.ρ id).1 (by omega)
      rw [hc] at hd; cases hd
      have hmul : (len + ys.length) * i.size ≤ capx * i.size := Nat.mul_le_mul_right _ hroom
      rw [Nat.add_mul] at hmul
      have hcb : (κ.ρ id).2 + len * i.size + news.length ≤ c.size := by omega
      have hrun := run_append_room_src (P := P) w t tx o.type elem i ht hei (κ.ρ id).1 (κ.ρ id).2 len capx (a.eval y') ys.length news hsrc (by omega) (fun j hj => by rw [cell_of_row hc]; simp; omega) (fun j hj => frozen_of_row w _ _ c T hc)
      rw [setCells_row hc hcb hsrc.one] at hrun
      generalize hc' : (c.toList.take ((κ.ρ id).2 + len * i.size) ++ news ++ c.toList.drop ((κ.ρ id).2 + len * i.size + news.length)).toArray = c' at hrun
      have hcs' : c'.size = c.size := by rw [← hc']; simp; omega
      have hrowb : (w.setRow (κ.ρ id).1 c').heap[(κ.ρ id).1]? = some (.cells c' T (0,0)) := setRow_heap _ _ _ _ _ _ hc
      have hown : own κ σ id = some (κ.ρ id).1 := by rw [own_eq hsi]; rfl
      have hE' := hext κ.ρ κ.cap (fun _ _ => rfl) (fun _ => Nat.le_refl _)
      have hle' : len * i.size ≤ vs.length := by rw [hvl]; exact Nat.mul_le_mul_right _ hle
      have htk : c.toList.take ((κ.ρ id).2 + len * i.size) = pre ++ vs.take (len * i.size) := by
       rw [hcl,List.append_assoc,List.take_append,List.take_of_length_le (l := pre) (by omega),hpre,Nat.add_sub_cancel_left,List.take_append_of_le_length hle']
      obtain ⟨h5,h6⟩ := INV.one (w' := w.setRow (κ.ρ id).1 c') (κ' := { (κ.grew id (v + 1) (κ.tok id)) with ρ := κ.ρ,cap := κ.cap }) (σ' := σ.set id (.arr (v + 1) i.size (es.take len ++ ys))) hi id (.arr (v + 1) i.size (es.take len ++ ys)) (by omega) (by simp; omega) (sto_set_get hidlt) (fun j hj => sto_set_other hj)
       hE' (hgt _ _) (by rw [setRow_size]; exact Nat.le_refl _) (fun b' hb' hno => setRow_other _ _ _ _ (fun e => hno (by rw [hown,e]))) (fun _ _ _ _ => rfl)
       (by
        refine ⟨by simp [Kn.grew],hke,⟨c',T,hrowb,hobk,fun u hu => ?_,pre,c.toList.drop ((κ.ρ id).2 + len * i.size + news.length),vs.take (len * i.size) ++ news,?_,hpre,hlen0 _ _ _ hE' ?_⟩,hMn⟩
        ·rw [← hc'] at hu
         simp only [List.mem_append] at hu
         rcases hu with (hu | hu) | hu
         ·exact hone' u (List.mem_of_mem_take hu)
         ·exact hsrc.one u hu
         ·exact hone' u (List.mem_of_mem_drop hu)
        ·rw [← hc',htk]; simp [List.append_assoc]
        ·rw [flat_take len hes]; exact RelL.take _ hrv)
       (fun b' hb' => by cases hb'; exact .inl hown)
       (fun b' o v hm => by
        have hm : κ.M b' o = some v := hm
        by_cases hb : b' = (κ.ρ id).1
        ·subst hb
         have hlt : o < (κ.ρ id).2 := by
          rcases Nat.lt_or_ge o (κ.ρ id).2 with h' | h'
          ·exact h'
          ·rw [hMn o h'] at hm; cases hm
         have := hi.mem _ _ _ hm
         rw [cell_of_row hc] at this
         rw [cell_of_row hrowb,← this,← hc',List.append_assoc]
         simp only [List.getElem?_toArray]
         rw [List.getElem?_append_left (by simp; omega),List.getElem?_take,if_pos (by omega)]
         simp
        ·rw [cell_setRow_other _ _ _ _ (by simpa using hb)]; exact hi.mem _ _ _ hm)
       (fun b' hcap' => by
        obtain ⟨d,T',fr,hd,hsz'⟩ := hi.cap b' hcap'
        by_cases hbb' : b' = (κ.ρ id).1
        ·subst hbb'
         rw [hc] at hd; cases hd
         exact ⟨c',T,(0,0),hrowb,(show κ.cap (κ.ρ id).1 ≤ c'.size by omega)⟩
        ·exact ⟨d,T',fr,by rw [setRow_other _ _ _ _ hbb']; exact hd,hsz'⟩)
       (by simp only [obBelow,belowEs_append,belowEs_take hwfe,Bool.true_and]; exact hy0) (fun _ _ _ => by simp only [obBelow,belowEs_append,belowEs_take hwfe,Bool.true_and]; exact hy0) rfl rfl rfl
      refine ⟨_,_,.slice (some ⟨(κ.ρ id).1,(κ.ρ id).2,none⟩) (len + ys.length) capx,.inl ?_,⟨by simp [Kn.grew],_,_,rfl,by omega,fun _ hcp' => ?_⟩,by simpa [below] using hidlt,h5,h6,by simp⟩
      ·rw [hxl] at hxv
       simp [execOp,ho,resolve,invoke,builtin,hxv,hrun]
      ·simp only [Nat.zero_mul,Nat.add_zero,Nat.zero_add]
       exact ⟨trivial,by simpa [Kn.grew,hke] using hcp⟩
     ·have hB0 : κ.cap w.heap.size = 0 := by
       rcases Nat.eq_zero_or_pos (κ.cap w.heap.size) with h | h
       ·exact h
       ·obtain ⟨d,T',fr,hd,-⟩ := hi.cap _ h
        have := (Array.getElem?_eq_some_iff.1 hd).1
        omega
      have hg : capx < xs.length + ys.length := by omega
      have hxlim : xs.length + ys.length ≤ LIM := by omega
      let ρ' : Nat → Nat × Nat := fun j => if j = id then (w.heap.size,0) else κ.ρ j
      let cap' : Nat → Nat := fun b => if b = w.heap.size then row.size else κ.cap b
      have hE' := hext ρ' cap' (fun j hj => by simp only [ρ']; rw [if_neg hj]) (fun b => by
       simp only [cap']
       split
       ·rename_i h; subst h; omega
       ·exact Nat.le_refl _)
      obtain ⟨h5,h6⟩ := INV.one (w' := w.drew.alloc (.cells row elem)) (κ' := { (κ.grew id (v + 1) (κ.tok id)) with ρ := ρ',cap := cap' }) (σ' := σ.set id (.arr (v + 1) i.size (es.take len ++ ys))) hi id (.arr (v + 1) i.size (es.take len ++ ys)) (by omega) (by simp; omega) (sto_set_get hidlt) (fun j hj => sto_set_other hj)
       hE' (hgt _ _) (by simp [alloc_heap]) (fun b hb _ => by rw [alloc_heap]; exact heap_push_lt hb) (fun _ _ _ _ => rfl)
       (by
        refine ⟨by simp [Kn.grew],hke,⟨row,elem,by simp [alloc_heap,ρ'],hobk,hrow1,[],(Builtin.zeroCells z.cells (G - (xs.length + ys.length))).toList,olds ++ news,?_,by simp [ρ'],hlen0 _ _ _ hE' (by rw [← hxs']; exact holds)⟩,fun o _ => ?_⟩
        ·rw [← hrow,← hall]; simp
        ·simp only [ρ',if_true]; exact hfresh o)
       (fun b' hb' => by
        simp only [blkOf,ρ',if_true,Option.some.injEq] at hb'
        exact .inr (by omega))
       (fun b' o v hm => holdcell b' o v hm)
       (fun b' hcap' => by
        simp only [cap'] at hcap' ⊢
        split at hcap'
        ·rename_i h; subst h
         exact ⟨row,elem,(0,0),by simp [alloc_heap],by simp⟩
        ·rename_i h
         rw [if_neg h]; exact holdcap b' hcap')
       (by simp only [obBelow,belowEs_append,belowEs_take hwfe,Bool.true_and]; exact hy0) (fun _ _ _ => by simp only [obBelow,belowEs_append,belowEs_take hwfe,Bool.true_and]; exact hy0) rfl rfl rfl
      refine ⟨_,_,_,.inl (grow hg hxlim),⟨by simp [Kn.grew],_,G,by rw [hxl],by omega,fun _ hcp' => ?_⟩,by simpa [below] using hidlt,h5,h6,by simp⟩
      simp only [ρ',cap',if_true,Nat.zero_mul,Nat.add_zero,Nat.zero_add]
      refine ⟨trivial,?_⟩
      simp only [Kn.grew,hke,hrs]; exact Nat.le_refl _
    ·split at happ
     ·rename_i h0
      cases happ
      exact opOK_val hi (none0 h0) h1 h2
     ·cases happ
   ·cases happ
  ·cases happ
theorem sound_app (hi : INV bars κ σ w) (he : ENV κ σ.length env a.tmps) {esz : Nat} {x y : Opd} {x' y' : Operand} {t tx elem : TypeId} {i : TypeInfo} {z : Value} (hx : chkO x x' = true) (hy : chkO y y' = true)
  (ht : P.underlying t = some (.slice elem)) (htx : ∃ e',P.underlying tx = some (.slice e')) (hei : P.info? elem = some i) (hs : i.size = esz) (hz : i.zero = some z) (hzs : z.cells.size = esz) (hz1 : z.cells.toList.all Value.oneCell' = true) (hby : i.bytes ≤ 32768) (hpos : 0 < esz)
  (ho : o.op = .call { callee := .builtin .append,args := #[x',y'],argTypes := #[t,tx] }) (hr : opE bars env σ (.app esz x y) = some r) : OpOK bars κ σ w ((execOp a.eval o).run P w) r := by
 simp only [opE,Option.bind_eq_some_iff] at hr
 obtain ⟨v,hv,u,hu,xs,hxs,ys,hys,hr⟩ := hr
 split at hr
 ·rename_i hall
  obtain ⟨hall1,hall2⟩ := hall
  simp only [Option.bind_eq_some_iff,Option.some.injEq] at hr
  obtain ⟨⟨pv,σ'⟩,happ,rfl⟩ := hr
  obtain ⟨h3,h4⟩ := chkO_spec he hy hu
  obtain ⟨ady,capy,news,hyv,hcy,hsrc,hnews⟩ := src_of hi htx h3 hys hall2
  exact sound_app0 hi he hx ht hei hs hz hzs hz1 hby hpos ho hv hxs hall1 (allLen_spec hall2) hsrc hnews (elemsOf_below hi h4 hys) happ
 ·cases hr
theorem bytes_rel {κ : Kn} : ∀ l : List UInt8,RelL κ (l.map fun b => PV.k (.int .u8 b.toNat)) (l.map fun b => Value.int .u8 b.toNat)
 | [] => rfl
 | b :: r => ⟨_,_,rfl,rfl,bytes_rel r⟩
theorem bytes_flat : ∀ l : List UInt8,(l.map fun b => [PV.k (.int .u8 b.toNat)]).flatten = l.map fun b => PV.k (.int .u8 b.toNat)
 | [] => rfl
 | b :: r => by simp [bytes_flat r]
theorem bytes_below {n : Nat} : ∀ l : List UInt8,below.belowEs n (l.map fun b => [PV.k (.int .u8 b.toNat)]) = true
 | [] => rfl
 | b :: r => by simp [below.belowEs,below.belowAll,below,bytes_below r]
theorem sound_apps (hi : INV bars κ σ w) (he : ENV κ σ.length env a.tmps) {x y : Opd} {x' y' : Operand} {t tx elem : TypeId} {i : TypeInfo} {z : Value} (hx : chkO x x' = true) (hy : chkO y y' = true)
  (ht : P.underlying t = some (.slice elem)) (htx : P.underlying tx = some .string) (hei : P.info? elem = some i) (hs : i.size = 1) (hz : i.zero = some z) (hzs : z.cells.size = 1) (hz1 : z.cells.toList.all Value.oneCell' = true) (hby : i.bytes ≤ 32768)
  (ho : o.op = .call { callee := .builtin .append,args := #[x',y'],argTypes := #[t,tx] }) (hr : opE bars env σ (.apps x y) = some r) : OpOK bars κ σ w ((execOp a.eval o).run P w) r := by
 simp only [opE,Option.bind_eq_some_iff] at hr
 obtain ⟨v,hv,u,hu,xs,hxs,ys,hys,hr⟩ := hr
 split at hr
 ·rename_i hall
  simp only [Option.bind_eq_some_iff,Option.some.injEq] at hr
  obtain ⟨⟨pv,σ'⟩,happ,rfl⟩ := hr
  obtain ⟨h3,h4⟩ := chkO_spec he hy hu
  unfold strElems at hys
  split at hys
  ·rename_i s
   cases hys
   simp only [RelV] at h3
   refine sound_app0 hi he hx ht hei hs hz hzs hz1 hby (by omega) ho hv hxs hall (news := byteCells s) (fun e he => ?_) ?_ ?_ (bytes_below _) happ
   ·obtain ⟨b,-,rfl⟩ := List.mem_map.1 he; rfl
   ·rw [h3]
    have := Src.ofString (P := P) w htx s
    simpa using this
   ·rw [bytes_flat]; exact bytes_rel _
  ·cases hys
 ·cases hr
end
end Go.Ev


namespace Go.Ev
variable [CodeRel]
section
variable {P : Program} {bars : List Nat} {κ : Kn} {σ : Sto} {w : World} {env : Env} {a : Act} {o : Oper} {r : OpR}
def Kn.pend (κ : Kn) (id n B base : Nat) (M' : Nat → Nat → Option Value) (c : Nat) : Kn :=
 { κ with gen := fun j => if j = id then n else κ.gen j,ρ := fun j => if j = id then (B,base) else κ.ρ j,M := M',cap := fun b => if b = B then max c (κ.cap B) else κ.cap b }
theorem sound_appz (hi : INV bars κ σ w) (he : ENV κ σ.length env a.tmps) {esz : Nat} {x y : Opd} {x' y' : Operand} {t tx elem : TypeId} {i : TypeInfo} {z : Value} (hx : chkO x x' = true) (hy : chkO y y' = true)
  (ht : P.underlying t = some (.slice elem)) (htx : ∃ e',P.underlying tx = some (.slice e')) (hei : P.info? elem = some i) (hs : i.size = esz) (hz : i.zero = some z) (hzs : z.cells.size = esz) (hz1 : z.cells.toList.all Value.oneCell' = true) (hby : i.bytes ≤ 32768) (hpos : 0 < esz)
  (ho : o.op = .call { callee := .builtin .append,args := #[x',y'],argTypes := #[t,tx] }) (hr : opE bars env σ (.appz esz x y) = some r) : OpOK bars κ σ w ((execOp a.eval o).run P w) r := by
 simp only [opE,Option.bind_eq_some_iff] at hr
 obtain ⟨v,hv,u,hu,ys,hys,hr⟩ := hr
 unfold appzE at hr
 split at hr
 case h_2 => cases hr
 rename_i id n es zz
 split at hr
 case h_2 => cases hr
 rename_i k m hsi
 split at hr
 case isFalse => cases hr
 rename_i hc
 obtain ⟨rfl,rfl,hlim,hall1,hall2,hb1,hb2⟩ := hc
 cases hr
 obtain ⟨h1,h2⟩ := chkO_spec he hx hv
 obtain ⟨h3,h4⟩ := chkO_spec he hy hu
 obtain ⟨ady,capy,news,hyv,hcy,hsrc,hnews⟩ := src_of hi htx h3 hys hall2
 obtain ⟨adx,capx,olds,hxv,hcx,hsrcx,holds⟩ := src_of hi ⟨_,ht⟩ h1 (ys := es) rfl hall1
 have hylen := allLen_spec hall2
 have hxlen := allLen_spec hall1
 have hzl : zz.length = k := hylen zz (by simp)
 have hnl : news.length = k := by have := hsrc.newsLen; simpa using this
 have hol : olds.length = es.length * k := hsrcx.newsLen
 simp only [List.flatten_cons,List.flatten_nil,List.append_nil] at hnews
 simp only [List.length_singleton] at hsrc
 subst hs
 have hidlt : id < σ.length := (List.getElem?_eq_some_iff.1 hsi).1
 obtain ⟨hng,ad,cap,esz',hx',hcap,hE,hlink⟩ := h1
 obtain ⟨hgen,hke,htok⟩ := hi.obs id _ hsi
 have hlink := hlink hgen
 rw [hxv] at hx'
 cases hx'
 have hfresh : ∀ o,κ.M w.heap.size o = none := hi.M_fresh (Nat.le_refl _)
 have hB0 : κ.cap w.heap.size = 0 := by
  rcases Nat.eq_zero_or_pos (κ.cap w.heap.size) with h | h
  ·exact h
  ·obtain ⟨d,T',fr,hd,-⟩ := hi.cap _ h
   have := (Array.getElem?_eq_some_iff.1 hd).1
   omega
 have hext : ∀ (B base c : Nat) (M' : Nat → Nat → Option Value),(∀ b o v,κ.M b o = some v → M' b o = some v) → Ext σ.length κ (κ.pend id (m + 1) B base M' c) := by
  intro B base c M' hM
  refine ⟨fun j hj hg => ?_,fun _ _ => rfl,fun j hj => ?_,fun j hj hg => rfl,hM,fun b => ?_⟩
  ·simp only [Kn.pend] at hg ⊢
   split at hg
   ·rename_i h; subst h; omega
   ·rename_i h; rw [if_neg h]
  ·simp only [Kn.pend]; split
   ·rename_i h; subst h; omega
   ·exact Nat.le_refl _
  ·simp only [Kn.pend]; split
   ·rename_i h; subst h; omega
   ·exact Nat.le_refl _
 have hgt : ∀ (B base c : Nat) (M' : Nat → Nat → Option Value) j,j < σ.length → j ≠ id → (κ.pend id (m + 1) B base M' c).gen j = κ.gen j := by
  intro B base c M' j _ hj
  simp only [Kn.pend,if_neg hj]
 have hbz : obBelow 0 (.pt (m + 1) i.size es zz) = true := by simp [obBelow,hb1,hb2]
 have growOw : capx < es.length + 1 → OpOK bars κ σ w ((execOp a.eval o).run P w) (.val (.rs id (m + 1) 0 (es.length + 1)) (σ.set id (.pt (m + 1) i.size es zz))) := by
  intro hg
  have hcd := hsrcx.cellsD
  rw [hxv] at hcd
  have hrun := run_append_grow_src (P := P) w t tx o.type elem i z ht hei hz adx es.length capx olds hcd (a.eval y') 1 news hsrc hg (by unfold LIM at hlim; omega) (growslice_fits hg (fits hlim hby))
  have hge := grownCap_ge w (es.length + 1) capx elem
  generalize hG : grownCap w (es.length + 1) capx elem = G at hge hrun
  generalize hrow : (olds ++ news).toArray ++ Builtin.zeroCells z.cells (G - (es.length + 1)) = row at hrun
  have hrs : row.size = G * i.size := by
   rw [← hrow,Array.size_append,size_zeroCells,hzs]
   simp only [List.size_toArray,List.length_append,hol,hnl]
   rw [show es.length * i.size + i.size = (es.length + 1) * i.size by rw [Nat.succ_mul],← Nat.add_mul]; congr 1; omega
  have hrowat : ∀ j,j < olds.length → row[j]? = olds[j]? := by
   intro j hj
   rw [← hrow,Array.getElem?_append_left (by simp; omega)]
   simp only [List.getElem?_toArray]
   rw [List.getElem?_append_left hj]
  let M' : Nat → Nat → Option Value := fun b' o => if b' = w.heap.size then olds[o]? else κ.M b' o
  have hMext : ∀ b o v,κ.M b o = some v → M' b o = some v := by
   intro b o v hm
   simp only [M']
   rw [if_neg (by rintro rfl; rw [hfresh] at hm; cases hm)]
   exact hm
  have hE' := hext w.heap.size 0 (G * i.size) M' hMext
  have hnewb : (w.drew.alloc (.cells row elem)).heap[w.heap.size]? = some (.cells row elem (0,0)) := by simp [alloc_heap]
  obtain ⟨h5,h6⟩ := INV.one (w' := w.drew.alloc (.cells row elem)) (κ' := κ.pend id (m + 1) w.heap.size 0 M' (G * i.size)) (σ' := σ.set id (.pt (m + 1) i.size es zz)) hi id (.pt (m + 1) i.size es zz) (by omega) (by simp; omega) (sto_set_get hidlt) (fun j hj => sto_set_other hj)
   hE' (hgt _ _ _ _) (by simp [alloc_heap]) (fun b hb _ => by rw [alloc_heap]; exact heap_push_lt hb)
   (fun b hb _ o => by simp only [Kn.pend,M']; rw [if_neg (by omega)])
   (by
    refine ⟨by simp [Kn.pend],hke,⟨row,elem,by simp only [Kn.pend,if_true]; exact hnewb,hzl,?_,olds,(Builtin.zeroCells z.cells (G - (es.length + 1))).toList,news,?_,?_,?_,hsrc.one⟩,fun o ho => ?_⟩
    ·simp only [Kn.pend,if_true]
     exact RelE.of hxlen (RelL.mono hE' _ _ (by rw [belowEs_flatten]; exact belowEs_mono (Nat.zero_le _) _ hb1) holds) fun j v hj => ⟨by simp only [Kn.pend,M',if_true,Nat.zero_add]; exact hj,hsrcx.one v (List.mem_of_getElem? hj)⟩
    ·rw [← hrow]; simp
    ·simp only [Kn.pend,if_true,hol]; omega
    ·exact RelL.mono hE' _ _ (belowAll_mono (Nat.zero_le _) _ hb2) hnews
    ·simp only [Kn.pend,if_true,M'] at ho ⊢
     exact List.getElem?_eq_none (by omega))
   (fun b hb => by
    simp only [blkOf,Kn.pend,if_true,Option.some.injEq] at hb
    exact .inr (by omega))
   (fun b o v hm => by
    simp only [Kn.pend,M'] at hm
    split at hm
    ·rename_i hb; subst hb
     have hlt := (List.getElem?_eq_some_iff.1 hm).1
     rw [cell_of_row hnewb,hrowat o hlt,hm]
    ·have hlt := cell_lt (hi.mem b o v hm)
     have := hi.mem b o v hm
     simp only [World.cell?,alloc_heap,heap_push_lt hlt] at this ⊢
     exact this)
   (fun b hb => by
    simp only [Kn.pend] at hb ⊢
    split at hb
    ·rename_i h; subst h
     rw [hB0]
     exact ⟨row,elem,(0,0),hnewb,by simp [hrs]⟩
    ·rename_i h; rw [if_neg h]
     obtain ⟨c,T,fr,h,hsz⟩ := hi.cap b hb
     exact ⟨c,T,fr,by rw [alloc_heap,heap_push_lt (Array.getElem?_eq_some_iff.1 h).1]; exact h,hsz⟩)
   (obBelow_mono (Nat.zero_le _) _ hbz) (fun _ _ _ => obBelow_mono (Nat.zero_le _) _ hbz) rfl rfl rfl
  refine ⟨_,_,.slice (some ⟨w.heap.size,0,none⟩) (es.length + 1) G,.inl ?_,⟨by simp [Kn.pend],_,G,rfl,hge,fun _ hcp => ?_⟩,by simpa [below] using hidlt,h5,h6,by simp⟩
  ·simp [execOp,ho,resolve,invoke,builtin,hxv,hrun]
  ·simp only [Kn.pend,if_true,hke]
   exact ⟨by simp,by simp; omega⟩
 unfold linkOw at hlink
 split at hlink
 ·exact growOw (by omega)
 ·rename_i b e f htk
  obtain ⟨hf,rfl,oo,rfl,hoe⟩ := hlink
  rw [hke] at hoe
  obtain ⟨⟨c,T,hc,hcs⟩,hMn⟩ := htok b e f htk
  have hmul : 1 * i.size ≤ f * i.size := Nat.mul_le_mul_right _ hf
  have hrun := run_append_room_src (P := P) w t tx o.type elem i ht hei b oo es.length (es.length + f) (a.eval y') 1 news hsrc (by omega) (fun j hj => by rw [cell_of_row hc]; simp; omega) (fun j hj => frozen_of_row w b _ c T hc)
  rw [hoe,setCells_row hc (by omega) hsrc.one] at hrun
  have hown : own κ σ id = some b := by rw [own_tok hsi,htk]; rfl
  have hE' := hext b oo (e + f * i.size) κ.M (fun _ _ _ h => h)
  generalize hc' : (c.toList.take e ++ news ++ c.toList.drop (e + news.length)).toArray = c' at hrun
  have hcs' : c'.size = c.size := by rw [← hc']; simp; omega
  have hrowb : (w.setRow b c').heap[b]? = some (.cells c' T (0,0)) := setRow_heap _ _ _ _ _ _ hc
  have hc'out : ∀ o,o < e → c'[o]? = c[o]? := by
   intro o ho
   have hte : (c.toList.take e).length = e := by simp; omega
   rw [← hc',List.append_assoc]
   simp only [List.getElem?_toArray]
   rw [List.getElem?_append_left (by omega),List.getElem?_take,if_pos ho]
   simp
  obtain ⟨h5,h6⟩ := INV.one (w' := w.setRow b c') (κ' := κ.pend id (m + 1) b oo κ.M (e + f * i.size)) (σ' := σ.set id (.pt (m + 1) i.size es zz)) hi id (.pt (m + 1) i.size es zz) (by omega) (by simp; omega) (sto_set_get hidlt) (fun j hj => sto_set_other hj)
   hE' (hgt _ _ _ _) (by rw [setRow_size]; exact Nat.le_refl _) (fun b' hb' hno => setRow_other _ _ _ _ (fun e => hno (by rw [hown,e])))
   (fun b' hb' hno o => rfl)
   (by
    refine ⟨by simp [Kn.pend],hke,⟨c',T,by simp only [Kn.pend,if_true]; exact hrowb,hzl,?_,c.toList.take e,c.toList.drop (e + news.length),news,?_,?_,?_,hsrc.one⟩,fun o ho => ?_⟩
    ·simp only [Kn.pend,if_true]
     by_cases hne : es = []
     ·subst hne; simp [RelE]
     ·obtain ⟨b1,o1,hbo,hE1⟩ := hE hne
      cases hbo
      have hesz : esz' = i.size := by
       cases es with
       | nil => exact absurd rfl hne
       | cons e1 r1 =>
        simp only [RelE] at hE1
        have := hxlen e1 (by simp)
        omega
      subst hesz
      exact RelE.mono hE' _ _ _ _ (belowEs_mono (Nat.zero_le _) _ hb1) hE1
    ·rw [← hc']
    ·simp only [Kn.pend,if_true]; simp; omega
    ·exact RelL.mono hE' _ _ (belowAll_mono (Nat.zero_le _) _ hb2) hnews
    ·simp only [Kn.pend,if_true] at ho ⊢
     exact hMn o (by omega))
   (fun b' hb' => by
    simp only [blkOf,Kn.pend,if_true,Option.some.injEq] at hb'
    subst hb'; exact .inl hown)
   (fun b' o v hm => by
    simp only [Kn.pend] at hm
    by_cases hb : b' = b
    ·subst hb
     have hlt : o < e := by
      rcases Nat.lt_or_ge o e with h' | h'
      ·exact h'
      ·rw [hMn o h'] at hm; cases hm
     have := hi.mem _ _ _ hm
     rw [cell_of_row hrowb,hc'out o hlt]
     rwa [cell_of_row hc] at this
    ·rw [cell_setRow_other _ _ _ _ (by simpa using hb)]; exact hi.mem _ _ _ hm)
   (fun b' hcap' => by
    simp only [Kn.pend] at hcap' ⊢
    split at hcap'
    ·rename_i h; subst h
     rw [if_pos rfl]
     refine ⟨c',T,(0,0),hrowb,?_⟩
     rcases Nat.eq_zero_or_pos (κ.cap b') with h0 | h0
     ·rw [h0]; omega
     ·obtain ⟨d,T',fr,hd,hsz'⟩ := hi.cap b' h0
      rw [hc] at hd; cases hd
      omega
    ·rename_i h; rw [if_neg h]
     obtain ⟨d,T',fr,hd,hsz'⟩ := hi.cap b' hcap'
     exact ⟨d,T',fr,by rw [setRow_other _ _ _ _ h]; exact hd,hsz'⟩)
   (obBelow_mono (Nat.zero_le _) _ hbz) (fun _ _ _ => obBelow_mono (Nat.zero_le _) _ hbz) rfl rfl rfl
  refine ⟨_,_,.slice (some ⟨b,oo,none⟩) (es.length + 1) (es.length + f),.inl ?_,⟨by simp [Kn.pend],_,_,rfl,by omega,fun _ hcp => ?_⟩,by simpa [below] using hidlt,h5,h6,by simp⟩
  ·simp [execOp,ho,resolve,invoke,builtin,hxv,hrun]
  ·simp only [Kn.pend,if_true,hke]
   refine ⟨by simp,?_⟩
   rw [Nat.zero_add,Nat.add_mul]; omega
end
end Go.Ev
