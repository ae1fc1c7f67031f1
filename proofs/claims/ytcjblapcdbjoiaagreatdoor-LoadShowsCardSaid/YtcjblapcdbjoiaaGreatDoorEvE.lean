/- What the interpreter comes to, the machine does: code, functions, calls. -/
import Derived.Test.YtcjblapcdbjoiaaGreatDoorEvD
import Derived.RangeFuncRecord
import Derived.RangeFuncIn
import Derived.RangeFuncLeaves
import Derived.RecoverIn
set_option linter.unnecessarySimpa false
set_option linter.unusedVariables false
set_option linter.unusedSimpArgs false
set_option linter.unusedSectionVars false
namespace Go.Ev
variable [CodeRel]
theorem own_take {κ : Kn} {σ : Sto} {n i b : Nat} (h : own κ (σ.take n) i = some b) : own κ σ i = some b := by
 cases hs : (σ.take n)[i]? with
 | none => unfold own at h; rw [hs] at h; cases h
 | some ob =>
  rw [own_eq hs] at h
  rw [List.getElem?_take] at hs
  split at hs
  ·rw [own_eq hs]; exact h
  ·cases hs
theorem INV.take {bars : List Nat} {κ : Kn} {σ : Sto} {w : World} {n : Nat} (h : INV (n :: bars) κ σ w) (hb : ∀ m ∈ bars,m ≤ n) : INV bars κ (σ.take n) w := by
 obtain ⟨hn,hw⟩ := h.wfb n (by simp)
 have hl : (σ.take n).length = n := by simp; omega
 have hget : ∀ i ob,(σ.take n)[i]? = some ob → i < n ∧ σ[i]? = some ob := by
  intro i ob hs
  rw [List.getElem?_take] at hs
  split at hs
  ·rename_i hi; exact ⟨hi,hs⟩
  ·cases hs
 refine ⟨fun i ob hs => h.obs i ob (hget i ob hs).2,fun i j b hi hj => h.inj i j b (own_take hi) (own_take hj),h.mem,h.cap,fun i ob hs => ?_,fun m hm => ?_⟩
 ·rw [hl]; exact hw i ob (hget i ob hs).1 (hget i ob hs).2
 ·refine ⟨by rw [hl]; exact hb m hm,fun i ob hi hs => ?_⟩
  exact (h.wfb m (by simp [hm])).2 i ob hi (hget i ob hs).2
theorem Kept.take {m n : Nat} {κ κ' : Kn} {σ σ' : Sto} {w w' : World} (h : Kept m κ σ w κ' σ' w') : Kept m κ σ w κ' (σ'.take n) w' :=
 ⟨h.ext,h.size,h.keep,fun i b hi => h.own i b (own_take hi),h.M,h.os,h.output,h.tape⟩
theorem INV.drop {b : Nat} {bars : List Nat} {κ : Kn} {σ : Sto} {w : World} (h : INV (b :: bars) κ σ w) : INV bars κ σ w :=
 ⟨h.obs,h.inj,h.mem,h.cap,h.wf,fun n hn => h.wfb n (by simp [hn])⟩
theorem INV.bar {bars : List Nat} {κ : Kn} {σ : Sto} {w : World} (h : INV bars κ σ w) : INV (σ.length :: bars) κ σ w :=
 ⟨h.obs,h.inj,h.mem,h.cap,h.wf,fun n hn => by
  simp only [List.mem_cons] at hn
  rcases hn with rfl | hn
  ·exact ⟨Nat.le_refl _,fun i ob _ hs => h.wf i ob hs⟩
  ·exact h.wfb n hn⟩
theorem INV.recell {bars : List Nat} {κ : Kn} {σ : Sto} {w : World} (h : INV bars κ σ w) {id k : Nat} {cs : List PV} {p q : PV} (hs : σ[id]? = some (.var cs)) (hk : cs[k]? = some p) (hr : ∀ x c T,w.heap[(κ.ρ id).1]? = some (.cells c T (0,0)) → c[k]? = some x → RelV κ p x → RelV κ q x) (hb : below σ.length q = true) (hbar : ∀ n ∈ bars,id < n → below n q = true) :
  INV bars κ (σ.set id (.var (cs.set k q))) w := by
 have hlt : id < σ.length := (List.getElem?_eq_some_iff.1 hs).1
 have hrl : ∀ (l : List PV) (x : List Value) (k : Nat),(∀ u,x[k]? = some u → RelV κ p u → RelV κ q u) → l[k]? = some p → RelL κ l x → RelL κ (l.set k q) x := by
  intro l
  induction l with
  | nil => intro x k _ hk; simp at hk
  | cons u r ih =>
   intro x k hr hk hl
   simp only [RelL] at hl
   obtain ⟨v,l',rfl,h1,h2⟩ := hl
   cases k with
   | zero => simp at hk; subst hk; exact ⟨v,l',rfl,hr v rfl h1,h2⟩
   | succ k => simp at hk; exact ⟨v,l',rfl,h1,ih l' k (fun u hu => hr u (by simpa using hu)) hk h2⟩
 have hbl : ∀ n,below.belowAll n cs = true → below n q = true → below.belowAll n (cs.set k q) = true := by
  intro n h1 h2
  refine belowAll_of fun u hu => ?_
  rcases List.mem_or_eq_of_mem_set hu with h | h
  ·exact belowAll_mem h1 h
  ·subst h; exact h2
 obtain ⟨g1,g2,⟨c,T,g3,g4,g5⟩,g6⟩ := h.obs id _ hs
 refine (INV.one h id (.var (cs.set k q)) (by omega) (by simp; omega) (sto_set_get hlt) (fun j hj => sto_set_other hj) (Ext.refl _ _) (fun _ _ _ => rfl) (Nat.le_refl _) (fun _ _ _ => rfl) (fun _ _ _ _ => rfl)
  ⟨g1,g2,⟨c,T,g3,hrl _ _ _ (fun u hu => hr u c T g3 (by simpa using hu)) hk g4,g5⟩,g6⟩ (fun b hb => .inl (by rw [own_eq hs]; exact hb)) h.mem h.cap (hbl _ (by rw [List.length_set]; exact h.wf _ _ hs) (by simpa using hb)) (fun n hn hi => hbl n ((h.wfb n hn).2 id _ hi hs) (hbar n hn hi)) rfl rfl rfl).1
theorem own_set {κ : Kn} {σ : Sto} {id : Nat} {cs cs' : List PV} (hs : σ[id]? = some (.var cs)) (i : Nat) : own κ (σ.set id (.var cs')) i = own κ σ i := by
 by_cases h : i = id
 ·subst h
  rw [own_eq hs,own_eq (sto_set_get (List.getElem?_eq_some_iff.1 hs).1)]; rfl
 ·unfold own; rw [sto_set_other h]
theorem INV.commit {bars : List Nat} {κ : Kn} {σ : Sto} {w : World} (hi : INV bars κ σ w) {id j kk ver of len v k : Nat} {cs : List PV} {es : List (List PV)} {z : List PV} (hs : σ[id]? = some (.var cs)) (hcs : cs[kk]? = some (.rs j ver of len)) (hsj : σ[j]? = some (.pt v k es z))
  (hc : v = ver ∧ of = 0 ∧ len = es.length + 1 ∧ barsOk bars id (.ow j (v + 1) (es ++ [z])) = true) :
  ∃ κ',INV bars κ' ((σ.set j (.tok k (v + 1))).set id (.var (cs.set kk (.ow j (v + 1) (es ++ [z]))))) w ∧ Kept σ.length κ σ w κ' ((σ.set j (.tok k (v + 1))).set id (.var (cs.set kk (.ow j (v + 1) (es ++ [z]))))) w ∧ True := by
 obtain ⟨rfl,rfl,rfl,hbar⟩ := hc
 have hne : id ≠ j := by rintro rfl; rw [hs] at hsj; cases hsj
 have hlt : id < σ.length := (List.getElem?_eq_some_iff.1 hs).1
 have hltj : j < σ.length := (List.getElem?_eq_some_iff.1 hsj).1
 obtain ⟨hg,h0,⟨c,T,hc,hrel,hone⟩,hM⟩ := hi.obs id _ hs
 obtain ⟨hgj,hkj,⟨cj,Tj,hcj,hzl,hE,pre,post,vs,hcl,hpre,hrz,honez⟩,hMj⟩ := hi.obs j _ hsj
 obtain ⟨u,hu,hle,ad,cap,rfl,hlc,hl⟩ := RelL.get hrel hcs
 obtain ⟨rfl,hcap⟩ := hl hgj (by omega)
 rw [hkj] at hcap
 simp only [Nat.zero_mul,Nat.add_zero,Nat.zero_add] at hcap hu
 have hwf := hi.wf _ _ hsj
 simp only [obBelow,Bool.and_eq_true] at hwf
 have hvl : vs.length = k := by rw [← hrz.length,hzl]
 have hcsz : cj.size = pre.length + vs.length + post.length := by rw [← Array.length_toList,hcl]; simp only [List.length_append]
 have hcapsz : (κ.ρ j).2 + cap * k ≤ cj.size := by
  rcases Nat.eq_zero_or_pos (κ.cap (κ.ρ j).1) with h | h
  ·omega
  ·obtain ⟨d,T',fr,hd,hsz⟩ := hi.cap _ h
   rw [hcj] at hd; cases hd
   omega
 generalize he0 : (κ.ρ j).2 + es.length * k = e0 at hpre hMj
 generalize hB : (κ.ρ j).1 = B at hcj hE hMj hu
 obtain ⟨tk,htk⟩ : ∃ tk : Option (Nat × Nat × Nat),tk = if cap = es.length + 1 then none else some (B,e0 + k,cap - (es.length + 1)) := ⟨_,rfl⟩
 obtain ⟨M',hM'⟩ : ∃ M' : Nat → Nat → Option Value,M' = fun b o => if b = B ∧ e0 ≤ o ∧ o < e0 + k then vs[o - e0]? else κ.M b o := ⟨_,rfl⟩
 have htk' : ∀ b e f,tk = some (b,e,f) → b = B ∧ e = e0 + k ∧ f = cap - (es.length + 1) ∧ 0 < f := by
  intro b e f h
  rw [htk] at h
  split at h
  ·cases h
  ·simp only [Option.some.injEq,Prod.mk.injEq] at h
   obtain ⟨rfl,rfl,rfl⟩ := h
   exact ⟨rfl,rfl,rfl,by omega⟩
 have hext : Ext σ.length κ { (κ.grew j (v + 1) tk) with M := M' } := by
  refine ⟨fun _ _ _ => rfl,fun _ _ => rfl,fun i hi' => ?_,fun i hi' hg => ?_,fun b o x hm => ?_,fun _ => Nat.le_refl _⟩
  ·simp only [Kn.grew]; split
   ·rename_i h; subst h; omega
   ·exact Nat.le_refl _
  ·simp only [Kn.grew] at hg ⊢
   split at hg
   ·rename_i h; subst h; omega
   ·rename_i h; rw [if_neg h]
  ·simp only [hM']
   rw [if_neg]
   ·exact hm
   ·rintro ⟨rfl,h1,h2⟩
    rw [hMj o h1] at hm; cases hm
 have hownj : own κ σ j = some B := by rw [own_eq hsj,← hB]; rfl
 have hin : ∀ i x,vs[i]? = some x → cj[e0 + i]? = some x := by
  intro i x hx
  have hlt' := (List.getElem?_eq_some_iff.1 hx).1
  rw [← Array.getElem?_toList,hcl,List.append_assoc,List.getElem?_append_right (by omega),List.getElem?_append_left (by omega),← hx]
  congr 1; omega
 obtain ⟨g1,g2⟩ := INV.one (w' := w) (κ' := { (κ.grew j (v + 1) tk) with M := M' }) (σ' := σ.set j (.tok k (v + 1))) hi j (.tok k (v + 1)) (by omega) (by simp; omega) (sto_set_get hltj) (fun i hi' => sto_set_other hi') hext
  (fun i _ hi' => by simp only [Kn.grew,if_neg hi']) (Nat.le_refl _) (fun _ _ _ => rfl)
  (fun b hb hno o => by simp only [hM']; rw [if_neg (by rintro ⟨rfl,-⟩; exact hno hownj)])
  (by
   refine ⟨by simp [Kn.grew],hkj,fun b e f h => ?_⟩
   simp only [Kn.grew,if_true] at h
   obtain ⟨rfl,rfl,rfl,hf⟩ := htk' b e f h
   refine ⟨⟨cj,Tj,hcj,?_⟩,fun o ho => ?_⟩
   ·have : (es.length + 1) * k + (cap - (es.length + 1)) * k = cap * k := by rw [← Nat.add_mul]; congr 1; omega
    rw [Nat.succ_mul] at this
    omega
   ·simp only [hM']
    rw [if_neg (by omega)]
    exact hMj o (by omega))
  (fun b hb => by
   simp only [blkOf,Kn.grew,if_true,Option.map_eq_some_iff] at hb
   obtain ⟨⟨b',e,f⟩,h,rfl⟩ := hb
   obtain ⟨rfl,-⟩ := htk' _ e f h
   exact .inl hownj)
  (fun b o x hm => by
   simp only [hM'] at hm
   split at hm
   ·rename_i h
    obtain ⟨rfl,h1,h2⟩ := h
    have := hin (o - e0) x hm
    rw [show e0 + (o - e0) = o by omega] at this
    rw [cell_of_row hcj,this]
   ·exact hi.mem _ _ _ hm)
  hi.cap rfl (fun _ _ _ => rfl) rfl rfl rfl
 have hbb : ∀ n,below.belowEs n (es ++ [z]) = true := fun n => by
  rw [belowEs_append,belowEs_mono (Nat.zero_le _) _ hwf.1]
  simp [below.belowEs,belowAll_mono (Nat.zero_le n) _ hwf.2]
 have hs1 : (σ.set j (.tok k (v + 1)))[id]? = some (.var cs) := by rw [sto_set_other hne]; exact hs
 have g3 := INV.recell (q := .ow j (v + 1) (es ++ [z])) g1 hs1 hcs (fun x c' T' hc' hx hp => by
  have hcc : c' = c := by
   rw [show (({ (κ.grew j (v + 1) tk) with M := M' } : Kn).ρ id).1 = (κ.ρ id).1 from rfl,hc] at hc'
   cases hc'; rfl
  subst hcc
  have hxu : x = .slice (some ⟨B,(κ.ρ j).2,none⟩) (es.length + 1) cap := by
   rw [Array.getElem?_toList] at hu
   rw [hx] at hu; exact Option.some.inj hu
  refine ⟨by simp [Kn.grew],_,cap,k,by rw [hxu]; simp,by simpa using hlc,fun _ => ⟨B,(κ.ρ j).2,rfl,?_⟩,fun _ => ?_⟩
  ·refine RelE.append (RelE.mono hext _ _ _ _ (belowEs_mono (Nat.zero_le _) _ hwf.1) hE) ?_
   rw [he0]
   refine RelE.of (vs := vs) (fun e he => by simp at he; subst he; exact hzl) (by simpa using RelL.mono hext _ _ (belowAll_mono (Nat.zero_le _) _ hwf.2) hrz) fun i y hy => ⟨?_,honez y (List.mem_of_getElem? hy)⟩
   have hlt' := (List.getElem?_eq_some_iff.1 hy).1
   simp only [hM']
   rw [if_pos ⟨trivial,by omega,by omega⟩,show e0 + i - e0 = i by omega,hy]
  ·simp only [linkOw,Kn.grew,if_true,List.length_append,List.length_singleton]
   split
   ·split at htk
    ·assumption
    ·cases htk
   ·rename_i b e f _
    obtain ⟨rfl,rfl,rfl,hf⟩ := htk' b e f rfl
    refine ⟨hf,by omega,(κ.ρ j).2,rfl,?_⟩
    rw [hkj,Nat.succ_mul]; omega) (by simp [below,hbb,hltj]) (fun n hn hlt' => barsOk_spec hbar n hn hlt')
 exact ⟨_,g3,⟨g2.ext,g2.size,g2.keep,fun i b hib => g2.own i b (by rw [own_set hs1] at hib; exact hib),g2.M,g2.os,g2.output,g2.tape⟩,trivial⟩
theorem INV.freeze {bars : List Nat} {κ : Kn} {σ : Sto} {w : World} (hi : INV bars κ σ w) {id ver off len v k : Nat} {es : List (List PV)} {x : Value} (hs : σ[id]? = some (.arr v k es)) (hx : RelV κ (.rs id ver off len) x) (hc : v = ver ∧ off + len ≤ es.length) :
  ∃ κ',INV bars κ' (σ.set id (.tok k (v + 1))) w ∧ Kept σ.length κ σ w κ' (σ.set id (.tok k (v + 1))) w ∧ RelV κ' (.sl false ((es.drop off).take len)) x ∧ below 0 (.sl false ((es.drop off).take len)) = true := by
 obtain ⟨rfl,hle⟩ := hc
 have hlt : id < σ.length := (List.getElem?_eq_some_iff.1 hs).1
 obtain ⟨hg,hk,⟨c,T,hc,hes,hone,pre,post,vs,hcl,hpre,hrel⟩,hM⟩ := hi.obs id _ hs
 obtain ⟨-,ad,cap,rfl,hlc,hl⟩ := hx
 have hl := hl hg
 have hwf : below.belowEs 0 es = true := by simpa [obBelow] using hi.wf _ _ hs
 have hcsz : c.size = pre.length + vs.length + post.length := by rw [← Array.length_toList,hcl]; simp only [List.length_append]
 have hownj : own κ σ id = some (κ.ρ id).1 := by rw [own_eq hs]; rfl
 obtain ⟨M',hM'⟩ : ∃ M' : Nat → Nat → Option Value,M' = fun b o => if b = (κ.ρ id).1 ∧ (κ.ρ id).2 ≤ o ∧ o < (κ.ρ id).2 + vs.length then vs[o - (κ.ρ id).2]? else κ.M b o := ⟨_,rfl⟩
 have hext : Ext σ.length κ { (κ.grew id (v + 1) none) with M := M' } := by
  refine ⟨fun _ _ _ => rfl,fun _ _ => rfl,fun i hi' => ?_,fun i hi' hg => ?_,fun b o x hm => ?_,fun _ => Nat.le_refl _⟩
  ·simp only [Kn.grew]; split
   ·rename_i h; subst h; omega
   ·exact Nat.le_refl _
  ·simp only [Kn.grew] at hg ⊢
   split at hg
   ·rename_i h; subst h; omega
   ·rename_i h; rw [if_neg h]
  ·simp only [hM']
   rw [if_neg]
   ·exact hm
   ·rintro ⟨rfl,h1,h2⟩
    rw [hM o h1] at hm; cases hm
 have hin : ∀ i x,vs[i]? = some x → c[(κ.ρ id).2 + i]? = some x := by
  intro i x hx
  have hlt' := (List.getElem?_eq_some_iff.1 hx).1
  rw [← Array.getElem?_toList,hcl,List.append_assoc,List.getElem?_append_right (by omega),List.getElem?_append_left (by omega),← hx]
  congr 1; omega
 obtain ⟨g1,g2⟩ := INV.one (w' := w) (κ' := { (κ.grew id (v + 1) none) with M := M' }) (σ' := σ.set id (.tok k (v + 1))) hi id (.tok k (v + 1)) (by omega) (by simp; omega) (sto_set_get hlt) (fun i hi' => sto_set_other hi') hext
  (fun i _ hi' => by simp only [Kn.grew,if_neg hi']) (Nat.le_refl _) (fun _ _ _ => rfl)
  (fun b hb hno o => by simp only [hM']; rw [if_neg (by rintro ⟨rfl,-⟩; exact hno hownj)])
  ⟨by simp [Kn.grew],hk,fun b e f h => by simp [Kn.grew] at h⟩
  (fun b hb => by simp [blkOf,Kn.grew] at hb)
  (fun b o x hm => by
   simp only [hM'] at hm
   split at hm
   ·rename_i h
    obtain ⟨rfl,h1,h2⟩ := h
    have := hin (o - (κ.ρ id).2) x hm
    rw [show (κ.ρ id).2 + (o - (κ.ρ id).2) = o by omega] at this
    rw [cell_of_row hc,this]
   ·exact hi.mem _ _ _ hm)
  hi.cap rfl (fun _ _ _ => rfl) rfl rfl rfl
 have hn : ((es.drop off).take len).length = len := by simp; omega
 refine ⟨_,g1,g2,⟨ad,cap,k,by rw [hn],by rw [hn]; exact hlc,by simp,fun hne => ?_⟩,?_⟩
 ·have h0 : 0 < len := by
   rcases Nat.eq_zero_or_pos len with h | h
   ·subst h; simp at hne
   ·exact h
  obtain ⟨rfl,-⟩ := hl (by omega)
  refine ⟨_,_,rfl,?_⟩
  rw [hk]
  refine RelE.part (RelE.of (vs := vs) hes (RelL.mono hext _ _ (by rw [belowEs_flatten]; exact belowEs_mono (Nat.zero_le _) _ hwf) hrel) fun j y hj => ⟨?_,hone y ?_⟩) off len
  ·have hlt' := (List.getElem?_eq_some_iff.1 hj).1
   simp only [hM']
   rw [if_pos ⟨trivial,by omega,by omega⟩,show (κ.ρ id).2 + j - (κ.ρ id).2 = j by omega,hj]
  ·rw [hcl]; simp [List.mem_of_getElem? hj]
 ·simp only [below]; exact belowEs_take (belowEs_drop hwf)
theorem ps_sound {bars : List Nat} {w : World} : ∀ (l : List Ps) {env env' : Env} {σ σ' : Sto} {κ : Kn} {tmps : Array Value},INV bars κ σ w → ENV κ σ.length env tmps → psE bars env σ l = some (env',σ') →
  ∃ κ',INV bars κ' σ' w ∧ ENV κ' σ'.length env' tmps ∧ Kept σ.length κ σ w κ' σ' w ∧ σ.length ≤ σ'.length
 | [],env,env',σ,σ',κ,tmps,hi,he,h => by
  simp only [psE,Option.some.injEq,Prod.mk.injEq] at h
  obtain ⟨rfl,rfl⟩ := h
  exact ⟨κ,hi,he,Kept.refl _ _ _ _,Nat.le_refl _⟩
 | .own s esz :: r,env,env',σ,σ',κ,tmps,hi,he,h => by
  simp only [psE] at h
  split at h
  ·rename_i es0 hl
   obtain ⟨h1,h2⟩ := hi.push_tok esz
   have hwf := he.wf s _ hl
   have hrel := he.rel s _ hl
   have hlt := he.lt s _ hl
   have he1 := he.mono h2.ext (m := (σ ++ [Ob.tok esz 0]).length) (by simp)
   obtain ⟨ad,cap,es,hx,hc,ht,hE⟩ := hrel
   have hc0 : cap = es0.length := ht rfl
   subst hc0
   have hnew : RelV { κ with gen := fun j => if j = σ.length then 0 else κ.gen j,esz := fun j => if j = σ.length then esz else κ.esz j,tok := fun j => if j = σ.length then none else κ.tok j } (.ow σ.length 0 es0) (tmps.getD s undef) :=
    ⟨Nat.zero_le _,ad,es0.length,es,hx,Nat.le_refl _,fun hne => by
     obtain ⟨b,o,e1,e2⟩ := hE hne
     exact ⟨b,o,e1,RelE.mono h2.ext _ _ _ _ (by simpa [below] using hwf) e2⟩,fun _ => by simp [linkOw]⟩
   obtain ⟨κ',g1,g2,g3,g4⟩ := ps_sound r h1 (he1.cons' hlt hnew (by simp only [below] at hwf ⊢; simp [belowEs_mono (Nat.le_succ σ.length) es0 hwf])) h
   exact ⟨κ',g1,g2,h2.trans g3 (by simp),Nat.le_trans (by simp) g4⟩
  ·exact ps_sound r hi he h
  ·cases h
 | .ownAt s off esz :: r,env,env',σ,σ',κ,tmps,hi,he,h => by
  simp only [psE] at h
  split at h
  ·rename_i id oo hl
   split at h
   ·rename_i cs hs
    split at h
    ·rename_i es0 hcs
     split at h
     ·rename_i hbar
      have hlt : id < σ.length := (List.getElem?_eq_some_iff.1 hs).1
      obtain ⟨h1,h2⟩ := hi.push_tok esz
      have hs1 : (σ ++ [Ob.tok esz 0])[id]? = some (.var cs) := by rw [List.getElem?_append_left hlt]; exact hs
      have hwf : below.belowEs σ.length es0 = true := by
       have h := hi.wf id _ hs
       simp only [obBelow] at h
       have := belowAll_mem h (List.mem_of_getElem? hcs)
       simpa [below] using this
      have h3 := INV.recell (q := .ow σ.length 0 es0) h1 hs1 hcs (fun x _ _ _ _ hx => by
       obtain ⟨ad,cap,es,hx,hc,ht,hE⟩ := hx
       have hc0 : cap = es0.length := ht rfl
       subst hc0
       exact ⟨Nat.zero_le _,ad,es0.length,es,hx,Nat.le_refl _,hE,fun _ => by simp [linkOw]⟩) (by simp [below,belowEs_mono (Nat.le_succ σ.length) es0 hwf]) (fun n hn hi' => barsOk_spec hbar n hn hi')
      have hset : (σ ++ [Ob.tok esz 0]).set id (.var (cs.set (oo + off) (.ow σ.length 0 es0))) = σ.set id (.var (cs.set (oo + off) (.ow σ.length 0 es0))) ++ [.tok esz 0] := List.set_append_left _ _ hlt
      rw [hset] at h3
      have he1 := he.mono h2.ext (m := (σ.set id (.var (cs.set (oo + off) (.ow σ.length 0 es0))) ++ [Ob.tok esz 0]).length) (by simp)
      have h2' : Kept σ.length κ σ w { κ with gen := fun j => if j = σ.length then 0 else κ.gen j,esz := fun j => if j = σ.length then esz else κ.esz j,tok := fun j => if j = σ.length then none else κ.tok j } (σ.set id (.var (cs.set (oo + off) (.ow σ.length 0 es0))) ++ [.tok esz 0]) w :=
       ⟨h2.ext,h2.size,h2.keep,fun i b hib => h2.own i b (by rw [← hset,own_set hs1] at hib; exact hib),h2.M,h2.os,h2.output,h2.tape⟩
      obtain ⟨κ',g1,g2,g3,g4⟩ := ps_sound r h3 he1 h
      exact ⟨κ',g1,g2,h2'.trans g3 (by simp),Nat.le_trans (by simp) g4⟩
     ·cases h
    ·exact ps_sound r hi he h
    ·cases h
   ·cases h
  ·cases h
 | .shutp s :: r,env,env',σ,σ',κ,tmps,hi,he,h => by
  simp only [psE] at h
  split at h
  ·rename_i v hl
   exact ps_sound r hi (he.cons' (he.lt s _ hl) (RelV.norm v _ (he.rel s _ hl)) (below_norm v (he.wf s _ hl))) h
  ·cases h
 | .mut s :: r,env,env',σ,σ',κ,tmps,hi,he,h => by simp [psE] at h
 | .frz s :: r,env,env',σ,σ',κ,tmps,hi,he,h => by
  simp only [psE] at h
  split at h
  ·rename_i id ver off len hl
   split at h
   ·rename_i v k es hs
    split at h
    ·rename_i hc
     obtain ⟨κ1,h1,h2,h3,h3'⟩ := INV.freeze hi hs (he.rel s _ hl) hc
     have h4 : σ.length ≤ (σ.set id (.tok k (v + 1))).length := by simp
     obtain ⟨κ',g1,g2,g3,g4⟩ := ps_sound r h1 ((he.mono h2.ext h4).cons' (he.lt s _ hl) h3 (below_mono (Nat.zero_le _) _ h3')) h
     exact ⟨κ',g1,g2,h2.trans g3 h4,Nat.le_trans h4 g4⟩
    ·cases h
   ·exact ps_sound r hi he h
  ·exact ps_sound r hi he h
  ·cases h
 | .com s off :: r,env,env',σ,σ',κ,tmps,hi,he,h => by
  simp only [psE] at h
  split at h
  ·rename_i id oo hl
   split at h
   ·rename_i cs hs
    split at h
    ·rename_i j ver of len hcs
     split at h
     ·rename_i v k es z hsj
      split at h
      ·rename_i hcond
       obtain ⟨κ1,h1,h2,h3⟩ := INV.commit hi hs hcs hsj hcond
       have h4 : σ.length ≤ ((σ.set j (.tok k (v + 1))).set id (.var (cs.set (oo + off) (.ow j (v + 1) (es ++ [z]))))).length := by simp
       obtain ⟨κ',g1,g2,g3,g4⟩ := ps_sound r h1 (he.mono h2.ext h4) h
       exact ⟨κ',g1,g2,h2.trans g3 h4,Nat.le_trans h4 g4⟩
      ·cases h
     ·exact ps_sound r hi he h
    ·exact ps_sound r hi he h
    ·cases h
   ·cases h
  ·cases h
def noRf : IC → Bool
 | .seq a b => noRf a && noRf b
 | .ps _ a => noRf a
 | .psa a _ => noRf a
 | .cond _ a b => noRf a && noRf b
 | .block _ a => noRf a
 | .loop a => noRf a
 | .cut a _ => noRf a
 | .rfunc .. => false
 | .dfr .. => false
 | _ => true
theorem restrict_mem {env : Env} : ∀ {keep : List Nat} {s : Nat} {v : PV},(s,v) ∈ restrict keep env → look env s = some v
 | [],s,v,h => by simp [restrict] at h
 | k :: r,s,v,h => by
  simp only [restrict] at h
  split at h
  ·rename_i u hu
   simp only [List.mem_cons,Prod.mk.injEq] at h
   rcases h with ⟨rfl,rfl⟩ | h
   ·exact hu
   ·exact restrict_mem h
  ·exact restrict_mem h
theorem INV.push_loop {bars : List Nat} {κ : Kn} {σ : Sto} {w : World} (hi : INV bars κ σ w) {env : Env} {ps keep : List Nat} {asg bd : IC} {r : Loop} (hr : r.params.toList = ps ∧ r.state = .ready ∧ r.pending = none) (he : ENV κ σ.length env r.tmps) (hc : CodeRel.cd asg r.assign r.tmps.size ∧ CodeRel.cd bd r.body r.tmps.size ∧ ∀ p ∈ ps,p < r.tmps.size) :
  INV bars (κ.at σ.length (w.heap.size + 1)) (σ ++ [.loop (restrict keep env) ps asg bd 0 none]) ((w.alloc (.deferred (some []))).alloc (.loop r)) ∧ Kept σ.length κ σ w (κ.at σ.length (w.heap.size + 1)) (σ ++ [.loop (restrict keep env) ps asg bd 0 none]) ((w.alloc (.deferred (some []))).alloc (.loop r)) ∧
   Marks (κ.at σ.length (w.heap.size + 1)) (σ ++ [.loop (restrict keep env) ps asg bd 0 none]) w ((w.alloc (.deferred (some []))).alloc (.loop r)) [w.heap.size] := by
 obtain ⟨g1,g2⟩ := INV.more (w' := w.alloc (.deferred (some []))) (κ' := κ) hi (Ext.refl _ _) (fun _ _ => rfl) (by show _ ≤ (w.heap.push _).size; simp) (fun b hb => by show (w.heap.push _)[b]? = _; exact heap_push_lt hb) (fun _ _ _ => rfl)
  (fun b o u hm => by
   have hlt := cell_lt (hi.mem b o u hm)
   have := hi.mem b o u hm
   simp only [World.cell?] at this ⊢
   show (match (w.heap.push _)[b]? with | some (.cells c _ _) => _ | _ => _) = _
   rw [heap_push_lt hlt]; exact this)
  (fun b hb => by
   obtain ⟨c,T,fr,h,hsz⟩ := hi.cap b hb
   exact ⟨c,T,fr,by show (w.heap.push _)[b]? = _; rw [heap_push_lt (Array.getElem?_eq_some_iff.1 h).1]; exact h,hsz⟩) rfl rfl rfl
 have hsz : (w.alloc (.deferred (some []))).heap.size = w.heap.size + 1 := by show (w.heap.push _).size = _; simp
 obtain ⟨h6,h7⟩ := INV.push_ob (w' := (w.alloc (.deferred (some []))).alloc (.loop r)) (obj := .loop r) (ob := .loop (restrict keep env) ps asg bd 0 none) (κ' := κ.at σ.length (w.heap.size + 1)) g1 rfl rfl rfl rfl (Ext.at _ _ _) (fun j hj => by simp [Kn.at,Nat.ne_of_lt hj]) rfl (fun b hb => .inl ⟨hb,rfl⟩)
  (by
   refine ⟨by simp [Kn.at],r,?_,hr.1,hr.2.1,hr.2.2,fun s v hs => ?_,hc⟩
   ·simp only [Kn.at,if_true]; rw [← hsz]; exact alloc_new _ _
   ·have hl := look_restrict hs
    exact ⟨RelV.mono (Ext.at κ σ.length (w.heap.size + 1)) v _ (he.wf s v hl) (he.rel s v hl),he.lt s v hl⟩)
  (fun b hb => by simp [blkOf,Kn.at] at hb; rw [hsz]; exact hb.symm)
  (by
   simp only [obBelow,List.all_eq_true]
   rintro ⟨s,v⟩ hm
   exact below_mono (Nat.le_succ _) _ (he.wf s v (restrict_mem hm)))
 refine ⟨h6,g2.trans h7 (Nat.le_refl _),⟨by simp,by simp,fun D hD => ?_,fun D hD i hi' => ?_⟩⟩
 ·simp only [List.mem_singleton] at hD; subst hD
  have hlt : w.heap.size < (w.alloc (.deferred (some []))).heap.size := by omega
  show ((w.alloc (.deferred (some []))).heap.push _)[w.heap.size]? = _
  rw [heap_push_lt hlt]
  exact alloc_new _ _
 ·simp only [List.mem_singleton] at hD; subst hD
  rcases h7.own i _ hi' with ⟨j,hj⟩ | hge
  ·have := own_lt hi hj; omega
  ·omega
theorem INV.set_loop {bars : List Nat} {κ : Kn} {σ : Sto} {w : World} (hi : INV bars κ σ w) {l : Nat} {env : Env} {ps : List Nat} {asg bd : IC} {st st' : Nat} {pend pend' : Option (Option Nat)} (hs : σ[l]? = some (.loop env ps asg bd st pend)) :
  ∃ r : Loop,κ.gen l = 1 ∧ w.heap[(κ.ρ l).1]? = some (.loop r) ∧ LoopRel κ env ps asg bd st pend r ∧
   INV bars κ (σ.set l (.loop env ps asg bd st' pend')) (w.putObj (κ.ρ l).1 (.loop { r with state := stOf st',pending := pendC pend' })) ∧
   Kept σ.length κ σ w κ (σ.set l (.loop env ps asg bd st' pend')) (w.putObj (κ.ρ l).1 (.loop { r with state := stOf st',pending := pendC pend' })) := by
 obtain ⟨hg,r,hr,hrel⟩ := hi.obs l _ hs
 have hl : l < σ.length := (List.getElem?_eq_some_iff.1 hs).1
 have hb : (κ.ρ l).1 < w.heap.size := (Array.getElem?_eq_some_iff.1 hr).1
 have hown : own κ σ l = some (κ.ρ l).1 := by rw [own_eq hs]; rfl
 refine ⟨r,hg,hr,hrel,?_⟩
 refine INV.one hi l (.loop env ps asg bd st' pend') (Nat.le_of_lt hl) (by simp; omega) (sto_set_get hl) (fun j hj => sto_set_other hj) (Ext.refl _ _) (fun _ _ _ => rfl) (by simp) (fun b hb' hne => ?_) (fun _ _ _ _ => rfl)
  ⟨hg,_,World.putObj_heap_same hb,hrel.1,rfl,rfl,hrel.2.2.2⟩ (fun b hb' => .inl (by simp only [blkOf,Option.some.injEq] at hb'; rw [hown,hb'])) (fun b o v hm => ?_) (fun b hb' => ?_) (by rw [List.length_set]; have := hi.wf l _ hs; simpa only [obBelow] using this) (fun n hn hlt => by have := (hi.wfb n hn).2 l _ hlt hs; simpa only [obBelow] using this) rfl rfl rfl
 ·exact World.putObj_heap_other (fun e => hne (by rw [hown,e]))
 ·have h1 := hi.mem b o v hm
  have hne : b ≠ (κ.ρ l).1 := by
   rintro rfl
   simp [World.cell?,hr] at h1
  simp only [World.cell?] at h1 ⊢
  rw [World.putObj_heap_other hne]; exact h1
 ·obtain ⟨c,T,fr,h1,h2⟩ := hi.cap b hb'
  have hne : b ≠ (κ.ρ l).1 := by
   rintro rfl
   rw [hr] at h1; cases h1
  exact ⟨c,T,fr,by rw [World.putObj_heap_other hne]; exact h1,h2⟩
def chkC (P : Program) (nt : Nat) : IC → Code → Bool
 | .skip,.skip => true
 | .skip,.label _ => true
 | .stuck,_ => true
 | .seq a b,.seq c d => chkC P nt a c && chkC P nt b d
 | .reg none xs _,.region _ ops false => chkOps P nt ops (List.range ops.size) xs
 | .reg (some ix) xs _,.region _ ops true => P.follows .mixedOrders && ix.length == xs.length && chkST P nt ops (mkL ix xs)
 | .ps _ a,c => chkC P nt a c
 | .psa a _,c => chkC P nt a c
 | .cond x a b,.cond y c d => chkO x y && chkC P nt a c && chkC P nt b d
 | .block i a,.block j c => i == j && chkC P nt a c
 | .loop a,.loop c => chkC P nt a c
 | .cut a _,c => chkC P nt a c
 | .rfunc x ps _ asg bd,.rangeFunc y qs asg' bd' => chkO x y && ps == qs.toList && ps.all (fun p => decide (p < nt)) && chkC P nt asg asg' && chkC P nt bd bd' && noRf asg && noRf bd
 | .exit i _,.exit j => i == j
 | .ret _,.ret => true
 | _,_ => false
theorem envBelow_spec {n : Nat} : ∀ {env : Env},envBelow n env = true → ∀ s v,look env s = some v → below n v = true
 | [],_,s,v,h => by simp [look] at h
 | (t,u) :: r,hb,s,v,h => by
  simp only [envBelow,Bool.and_eq_true] at hb
  simp only [look] at h
  split at h
  ·cases h; exact hb.1
  ·exact envBelow_spec hb.2 s v h
section
variable {P : Program} {nt : Nat}
theorem rf_sound (hK : ∀ ic c m,CodeRel.cd ic c m ↔ chkC P m ic c = true ∧ noRf ic = true) {calls : Sem'} (hcalls : CallsOK P calls) {it : It} {x : Opd} {y : Operand} {qs : Array Tmp} {keep : List Nat} {asg bd : IC} {asg' bd' : Code}
  (hxy : chkO x y = true) (hlt : ∀ p ∈ qs.toList,p < nt) (ha : chkC P nt asg asg' = true) (hb : chkC P nt bd bd' = true) (hna : noRf asg = true) (hnb : noRf bd = true)
  {bars : List Nat} {env : Env} {σ : Sto} {r : Ex × Env × Sto} {κ : Kn} {a : Act} {w : World} {Q : Exit → Act → World → Prop} (hi : INV bars κ σ w) (he : ENV κ σ.length env a.tmps) (hs : a.tmps.size = nt) (hr : evC calls it bars (.rfunc x qs.toList keep asg bd) env σ = some r)
  (hQ : ∀ e a' w' κ',Post bars κ σ w a r e a' w' κ' → Q e a' w') : (Code.rangeFunc y qs asg' bd').wpIn (FW none) 0 P Q a w := by
 simp only [evC] at hr
 split at hr
 case h_2 => cases hr
 rename_i g' cap hx
 split at hr
 case isFalse => cases hr
 rename_i hg
 obtain ⟨⟨us,hy,hrel⟩,hbel⟩ := chkO_spec he hxy hx
 refine wpIn_rangeFunc fun fn _ => ?_
 obtain ⟨rec,hrec⟩ : ∃ rec : Loop,rec = { state := .ready,pending := none,fn,tmps := a.tmps,params := qs,assign := asg',body := bd',defers := w.heap.size } := ⟨_,rfl⟩
 obtain ⟨h1,h2,h3⟩ := INV.push_loop (keep := keep) (env := env) (ps := qs.toList) (asg := asg) (bd := bd) (r := rec) hi (by subst hrec; exact ⟨rfl,rfl,rfl⟩) (by subst hrec; exact he)
  (by subst hrec; exact ⟨(hK _ _ _).2 ⟨by simp only; rw [hs]; exact ha,hna⟩,(hK _ _ _).2 ⟨by simp only; rw [hs]; exact hb,hnb⟩,fun p hp => by simp only; rw [hs]; exact hlt p (by simpa using hp)⟩)
 generalize hκ : κ.at σ.length (w.heap.size + 1) = κ1 at h1 h2 h3
 have hρ : (κ1.ρ σ.length).1 = w.heap.size + 1 := by rw [← hκ]; simp [Kn.at]
 have hg1 : κ1.gen σ.length = 1 := by rw [← hκ]; simp [Kn.at]
 generalize hσ : σ ++ [Ob.loop (restrict keep env) qs.toList asg bd 0 none] = σ1 at h1 h2 h3 hr
 generalize hw : (w.alloc (.deferred (some []))).alloc (.loop rec) = w1 at h1 h2 h3
 have hl1 : σ1.length = σ.length + 1 := by rw [← hσ]; simp
 cases hcl : calls bars g' (.yld σ.length :: cap) σ1 with
 | none => rw [hcl] at hr; cases hr
 | some y1 =>
  obtain ⟨hca,hok⟩ := hcalls _ _ _ _ _ hcl
  obtain ⟨args,hargs⟩ : ∃ args : Array Value,args = #[Value.func (.yield (w.heap.size + 1)) #[] #[]] ++ us := ⟨_,rfl⟩
  have hinv : (invoke (.fn (.func g') us) #[Value.func (.yield (w.heap.size + 1)) #[] #[]]).run P w1 = .ok (.enter g' args) w1 := by
   have := run_callFunc (w := w1) (hca hg) args
   rw [hargs] at this ⊢
   simp [invoke,go_sem]
   simpa using this
  have hrl : RelL κ1 (.yld σ.length :: cap) args.toList := by
   rw [hargs,Array.toList_append]
   exact ⟨_,_,rfl,⟨_,rfl,by rw [hg1]; exact Nat.le_refl _,fun _ => hρ.symm⟩,RelL.mono h2.ext _ _ (by simpa [below] using hbel) hrel⟩
  have hcall := (hok κ1 w1 args h1
   hrl
   (by simp only [below.belowAll,below,Bool.and_eq_true,decide_eq_true_eq]; exact ⟨by omega,belowAll_mono (show σ.length ≤ σ1.length by omega) _ (by simpa [below] using hbel)⟩)).1 hg
  rw [hcl] at hr
  have hdep : (FW none).depth.isSome = true → 1 ≤ 0 := fun h => by cases h
  have hfin : CallsIn (FW none) (0 - 1) P g' args w1 (rangePost (FW none) 0 P (w.heap.size + 1) Q { a with defers := [mark w.heap.size] ++ a.defers }) := ?fin
  refine ⟨w.heap.size + 1,[mark w.heap.size],w1,{ target := .fn (.func g') us,args := #[.func (.yield (w.heap.size + 1)) #[] #[]] },w1,g',args,w1,?_,?_,?_,?_,hdep,hfin⟩
  case fin =>
   refine callsIn_FW (hcall.mono fun e w2 hp => ?_)
   obtain ⟨κ2,g1,g2,g3,g4⟩ := hp
   have hk12 := h2.trans g2 (by omega)
   have hd1 : Dfr κ1 σ1 w w1 a.defers ([mark w.heap.size] ++ a.defers) := ⟨[w.heap.size],rfl,h3⟩
   obtain ⟨o1,σ2⟩ := y1
   simp only at g1 g2 g3 g4 hk12
   cases o1 with
   | pan v =>
    simp only at hr g4
    cases hr
    obtain ⟨u,rfl,g5,g6⟩ := g4
    exact hQ _ _ _ κ2 ⟨g1,hk12,by simp only; omega,rfl,hd1.trans g2 h2.size .refl,u,rfl,g5,g6,he.mono hk12.ext (by simp only; omega)⟩
   | ret v =>
    simp only at hr g4
    obtain ⟨u,rfl,g5,g6⟩ := g4
    split at hr
    case h_2 => cases hr
    rename_i env' ps' a' b' st pend hst
    simp only [Option.bind_eq_some_iff,Option.some.injEq] at hr
    obtain ⟨ex,hex,rfl⟩ := hr
    obtain ⟨r2,e1,e2,e3,e4,e5⟩ := INV.set_loop (st' := 3) (pend' := pend) g1 hst
    have hρ2 : (κ2.ρ σ.length).1 = w.heap.size + 1 := by rw [g2.ext.ρ σ.length (by omega) (by rw [e1,hg1]),hρ]
    rw [hρ2] at e2 e4 e5
    have hst2 : r2.state ≠ .busy ∧ r2.pending = pendC pend := by
     obtain ⟨-,k1,k2,-⟩ := e3
     refine ⟨?_,k2⟩
     rw [k1]
     unfold endLoopE at hex
     split at hex <;> first | (cases hex; done) | simp [stOf]
    have hend := run_endLoop (P := P) e2 hst2.1
    rw [show ({ r2 with state := LoopState.exhausted } : Loop) = { r2 with state := stOf 3,pending := pendC pend } by rw [← hst2.2]; rfl] at hend
    have hlen2 : σ.length ≤ (σ2.set σ.length (.loop env' ps' a' b' 3 pend)).length := by simp; omega
    have hkk := hk12.trans e5 (by omega)
    have hdd := (hd1.trans g2 h2.size (Dfr.refl (κ := κ2) (σ := σ2) (w0 := w1) (w := w2))).trans e5 (Nat.le_trans h2.size g2.size) (Dfr.refl (κ := κ2))
    have henv := he.mono hkk.ext hlen2
    have hpost : ∀ ex' : Exit,(match ex with | .norm => ex' = .normal | .exit id => ex' = .exit id | .ret => ex' = .ret | .pan _ => False) → Q ex' { a with defers := [mark w.heap.size] ++ a.defers } (w2.putObj (w.heap.size + 1) (.loop { r2 with state := stOf 3,pending := pendC pend })) := by
     intro ex' hex'
     refine hQ ex' _ _ κ2 ⟨e4,hkk,hlen2,rfl,hdd,?_⟩
     cases ex with
     | norm => exact ⟨hex',henv⟩
     | exit id => exact ⟨hex',henv⟩
     | ret => exact ⟨hex',henv⟩
     | pan v => exact hex'.elim
    refine ⟨_,_,hend,?_⟩
    rw [hst2.2]
    unfold endLoopE at hex
    split at hex
    ·cases hex; exact hpost .normal rfl
    ·cases hex; exact wpIn_ret (hpost .ret rfl)
    ·cases hex; exact wpIn_exit (hpost (.exit _) rfl)
    ·cases hex
  ·rw [← hw,hrec]; exact run_enterLoop_outer _ _ _ _ _
  ·simp only [resolve,hy]
   simp [go_sem]
  ·intro f' _; trivial
  ·exact hinv
theorem evC_sound (hK : ∀ ic c m,CodeRel.cd ic c m ↔ chkC P m ic c = true ∧ noRf ic = true) {calls : Sem'} (hcalls : CallsOK P calls) {ro : Option Nat} {nr : Bool} (hrn : ro = none ∨ nr = true) (n : Nat) : ∀ (ic : IC) (c : Code),chkC P nt ic c = true → (nr = true → noRf ic = true) → ∀ {bars : List Nat} {env : Env} {σ : Sto} {r : Ex × Env × Sto} {κ : Kn} {a : Act} {w : World} {Q : Exit → Act → World → Prop},
  INV bars κ σ w → ENV κ σ.length env a.tmps → a.tmps.size = nt → evC calls (fun s x => iter s n x) bars ic env σ = some r → (∀ e a' w' κ',Post bars κ σ w a r e a' w' κ' → (nr = true → a'.defers = a.defers) → Q e a' w') → c.wpIn (FW ro) 0 P Q a w := by
 intro ic
 induction ic with
 | skip =>
  intro c hc hro bars env σ r κ a w Q hi he hs hr hQ
  simp only [evC,Option.some.injEq] at hr
  subst hr
  cases c <;> simp [chkC] at hc
  ·exact wpIn_skip (hQ _ _ _ κ ⟨hi,Kept.refl _ _ _ _,Nat.le_refl _,rfl,.refl,rfl,he⟩ fun _ => rfl)
  ·exact wpIn_label (hQ _ _ _ κ ⟨hi,Kept.refl _ _ _ _,Nat.le_refl _,rfl,.refl,rfl,he⟩ fun _ => rfl)
 | seq x y ihx ihy =>
  intro c hc hro bars env σ r κ a w Q hi he hs hr hQ
  cases c <;> simp [chkC] at hc
  rename_i c d
  simp only [evC] at hr
  refine wpIn_seq ?_
  cases hx : evC calls (fun s x => iter s n x) bars x env σ with
  | none => rw [hx] at hr; cases hr
  | some r1 =>
   rw [hx] at hr
   refine ihx c hc.1 (fun h => by have h := hro h; simp [noRf] at h; exact h.1) hi he hs hx fun e a1 w1 κ1 hp hd => ?_
   obtain ⟨e1,env1,σ1⟩ := r1
   cases e1 with
   | norm =>
    obtain ⟨rfl,he1⟩ := hp.ex
    exact ihy d hc.2 (fun h => by have h := hro h; simp [noRf] at h; exact h.2) hp.inv he1 (hp.size.trans hs) hr fun e a' w' κ' hp' hd' => hQ e a' w' κ' (hp'.trans hp.kept hp.len hp.size hp.defers) fun h => (hd' h).trans (hd h)
   | exit id =>
    cases hr
    obtain ⟨rfl,he1⟩ := hp.ex
    exact hQ _ _ _ κ1 hp hd
   | ret =>
    cases hr
    obtain ⟨rfl,he1⟩ := hp.ex
    exact hQ _ _ _ κ1 hp hd
   | pan v =>
    cases hr
    obtain ⟨y,rfl,he1⟩ := hp.ex
    exact hQ _ _ _ κ1 hp hd
 | reg d xs keep =>
  intro c hc hro bars env σ r κ a w Q hi he hs hr hQ
  cases d with
  | some ix =>
   obtain ⟨id,ops,rfl,hm,hl,hc⟩ : ∃ id ops,c = .region id ops true ∧ P.follows .mixedOrders = true ∧ ix.length = xs.length ∧ chkST P nt ops (mkL ix xs) = true := by
    cases c <;> first | (simp [chkC] at hc; done) | skip
    rename_i id ops d'
    cases d' <;> first | (simp [chkC] at hc; done) | skip
    simp only [chkC,Bool.and_eq_true,beq_iff_eq] at hc
    exact ⟨id,ops,rfl,hc.1.1,hc.1.2,hc.2⟩
   simp only [evC] at hr
   cases hx : evOps calls bars xs env σ with
   | none => rw [hx] at hr; simp at hr
   | some r1 =>
    rw [hx] at hr
    obtain ⟨e1,env1,σ1⟩ := r1
    cases e1 with
    | norm =>
     simp only [Option.some.injEq] at hr
     subst hr
     exact draw_sound hcalls (chkST_spec hc) hm (keep := keep) hi he hs (by rw [mkL_map hl]; exact hx) fun e a' w' κ' hp hd => hQ e a' w' κ' hp fun _ => hd
    | exit id => simp at hr
    | ret => simp at hr
    | pan v => simp at hr
  | none =>
  obtain ⟨id,ops,rfl,hc⟩ : ∃ id ops,c = .region id ops false ∧ chkOps P nt ops (List.range ops.size) xs = true := by
   cases c <;> first | (simp [chkC] at hc; done) | skip
   rename_i id ops d'
   cases d' <;> first | (simp [chkC] at hc; done) | skip
   exact ⟨id,ops,rfl,by simpa only [chkC] using hc⟩
  simp only [evC] at hr
  refine wpIn_region ?_
  cases hx : evOps calls bars xs env σ with
  | none => rw [hx] at hr; simp at hr
  | some r1 =>
   rw [hx] at hr
   refine ops_sound hcalls _ _ hc hi he hs hx fun e a1 w1 κ1 hp hd => ?_
   obtain ⟨e1,env1,σ1⟩ := r1
   cases e1 with
   | norm =>
    cases hr
    obtain ⟨rfl,he1⟩ := hp.ex
    exact hQ _ _ _ κ1 ⟨hp.inv,hp.kept,hp.len,hp.size,hp.defers,rfl,he1.restrict keep⟩ (fun _ => hd)
   | exit id =>
    cases hr
    exact hQ _ _ _ κ1 hp (fun _ => hd)
   | ret =>
    cases hr
    exact hQ _ _ _ κ1 hp (fun _ => hd)
   | pan v =>
    cases hr
    exact hQ _ _ _ κ1 hp (fun _ => hd)
 | ps l x ih =>
  intro c hc hro bars env σ r κ a w Q hi he hs hr hQ
  have hc' : chkC P nt x c = true := by cases c <;> simpa [chkC] using hc
  simp only [evC] at hr
  split at hr
  ·rename_i env1 σ1 hps
   obtain ⟨κ1,g1,g2,g3,g4⟩ := ps_sound l hi he hps
   exact ih c hc' (fun h => by have h := hro h; simpa [noRf] using h) g1 g2 hs hr fun e a' w' κ' hp hd => hQ e a' w' κ' (hp.trans g3 g4 rfl .refl) hd
  ·cases hr
 | psa x l ih =>
  intro c hc hro bars env σ r κ a w Q hi he hs hr hQ
  have hc' : chkC P nt x c = true := by cases c <;> simpa [chkC] using hc
  simp only [evC] at hr
  cases hx : evC calls (fun s x => iter s n x) bars x env σ with
  | none => rw [hx] at hr; cases hr
  | some r1 =>
   rw [hx] at hr
   refine ih c hc' (fun h => by have h := hro h; simpa [noRf] using h) hi he hs hx fun e a1 w1 κ1 hp hd => ?_
   obtain ⟨e1,env1,σ1⟩ := r1
   cases e1 with
   | norm =>
    obtain ⟨rfl,he1⟩ := hp.ex
    simp only at hr
    split at hr
    ·rename_i env2 σ2 hps
     cases hr
     obtain ⟨κ2,g1,g2,g3,g4⟩ := ps_sound l hp.inv he1 hps
     have hp2 : Post bars κ1 σ1 w1 a1 (.norm,env2,σ2) .normal a1 w1 κ2 := ⟨g1,g3,g4,rfl,.refl,rfl,g2⟩
     exact hQ _ _ _ κ2 (hp2.trans hp.kept hp.len hp.size hp.defers) hd
    ·cases hr
   | exit id =>
    cases hr
    obtain ⟨rfl,he1⟩ := hp.ex
    exact hQ _ _ _ κ1 hp hd
   | ret =>
    cases hr
    obtain ⟨rfl,he1⟩ := hp.ex
    exact hQ _ _ _ κ1 hp hd
   | pan v =>
    cases hr
    obtain ⟨y,rfl,he1⟩ := hp.ex
    exact hQ _ _ _ κ1 hp hd
 | cond x y z ihy ihz =>
  intro c hc hro bars env σ r κ a w Q hi he hs hr hQ
  cases c <;> simp [chkC] at hc
  simp only [evC] at hr
  split at hr
  ·rename_i hx
   have hb := (chkO_spec he hc.1.1 hx).1
   simp only [RelV] at hb
   exact wpIn_cond_true hb (ihy _ hc.1.2 (fun h => by have h := hro h; simp [noRf] at h; exact h.1) hi he hs hr hQ)
  ·rename_i hx
   have hb := (chkO_spec he hc.1.1 hx).1
   simp only [RelV] at hb
   exact wpIn_cond_false hb (ihz _ hc.2 (fun h => by have h := hro h; simp [noRf] at h; exact h.2) hi he hs hr hQ)
  ·cases hr
 | block id x ih =>
  intro c hc hro bars env σ r κ a w Q hi he hs hr hQ
  cases c <;> simp [chkC] at hc
  rename_i j c
  obtain ⟨rfl,hc⟩ := hc
  simp only [evC] at hr
  refine wpIn_block ?_
  cases hx : evC calls (fun s x => iter s n x) bars x env σ with
  | none => rw [hx] at hr; cases hr
  | some r1 =>
   rw [hx] at hr
   refine ih c hc (fun h => by have h := hro h; simpa [noRf] using h) hi he hs hx fun e a1 w1 κ1 hp hd => ?_
   obtain ⟨e1,env1,σ1⟩ := r1
   cases e1 with
   | norm =>
    cases hr
    obtain ⟨rfl,he1⟩ := hp.ex
    exact hQ _ _ _ κ1 hp hd
   | exit k =>
    obtain ⟨rfl,he1⟩ := hp.ex
    simp only at hr
    by_cases hk : k = id
    ·rw [if_pos hk] at hr
     cases hr
     simp only [Exit.inBlock,if_pos hk]
     exact hQ _ _ _ κ1 ⟨hp.inv,hp.kept,hp.len,hp.size,hp.defers,rfl,he1⟩ hd
    ·rw [if_neg hk] at hr
     cases hr
     simp only [Exit.inBlock,if_neg hk]
     exact hQ _ _ _ κ1 hp hd
   | ret =>
    cases hr
    obtain ⟨rfl,he1⟩ := hp.ex
    exact hQ _ _ _ κ1 hp hd
   | pan v =>
    cases hr
    obtain ⟨y,rfl,he1⟩ := hp.ex
    exact hQ _ _ _ κ1 hp hd
 | loop x ih =>
  intro c hc hro bars env σ r κ a w Q hi he hs hr hQ
  cases c <;> simp [chkC] at hc
  rename_i c
  simp only [evC] at hr
  refine wpIn_loop_rounds n ?_
  have key : ∀ (m : Nat) {env : Env} {σ : Sto} {κ : Kn} {a : Act} {w : World} {Q : Exit → Act → World → Prop},INV bars κ σ w → ENV κ σ.length env a.tmps → a.tmps.size = nt → iter (fun x' => evC calls (fun s x => iter s n x) bars x x'.1 x'.2) m (env,σ) = some r →
    (∀ e a' w' κ',Post bars κ σ w a r e a' w' κ' → (nr = true → a'.defers = a.defers) → Q e a' w') → Code.roundsIn (FW ro) 0 P c Q m a w := by
   intro m
   induction m with
   | zero => intro env σ κ a w Q hi he hs hr hQ; cases hr
   | succ m ihm =>
    intro env σ κ a w Q hi he hs hr hQ
    simp only [iter] at hr
    rw [roundsIn_succ]
    cases hx : evC calls (fun s x => iter s n x) bars x env σ with
    | none => rw [hx] at hr; cases hr
    | some r1 =>
     rw [hx] at hr
     refine ih c hc (fun h => by have h := hro h; simpa [noRf] using h) hi he hs hx fun e a1 w1 κ1 hp hd => ?_
     obtain ⟨e1,env1,σ1⟩ := r1
     cases e1 with
     | norm =>
      obtain ⟨rfl,he1⟩ := hp.ex
      exact ihm hp.inv he1 (hp.size.trans hs) hr fun e a' w' κ' hp' hd' => hQ e a' w' κ' (hp'.trans hp.kept hp.len hp.size hp.defers) fun h => (hd' h).trans (hd h)
     | exit id =>
      cases hr
      obtain ⟨rfl,he1⟩ := hp.ex
      exact hQ _ _ _ κ1 hp hd
     | ret =>
      cases hr
      obtain ⟨rfl,he1⟩ := hp.ex
      exact hQ _ _ _ κ1 hp hd
     | pan v =>
      cases hr
      obtain ⟨y,rfl,he1⟩ := hp.ex
      exact hQ _ _ _ κ1 hp hd
  exact key n hi he hs hr hQ
 | cut x keep ih =>
  intro c hc hro bars env σ r κ a w Q hi he hs hr hQ
  have hc' : chkC P nt x c = true := by cases c <;> simpa [chkC] using hc
  have hbl : ∀ m ∈ bars,m ≤ σ.length := fun m hm => (hi.wfb m hm).1
  simp only [evC] at hr
  cases hx : evC calls (fun s x => iter s n x) (σ.length :: bars) x env σ with
  | none => rw [hx] at hr; cases hr
  | some r1 =>
   rw [hx] at hr
   refine ih c hc' (fun h => by have h := hro h; simpa [noRf] using h) hi.bar he hs hx fun e a1 w1 κ1 hp hd => ?_
   obtain ⟨e1,env1,σ1⟩ := r1
   have hcut : ∀ env2,ENV κ1 σ1.length env2 a1.tmps → envBelow σ.length env2 = true → ENV κ1 (σ1.take σ.length).length env2 a1.tmps := by
    intro env2 h1 h2
    have hl : (σ1.take σ.length).length = σ.length := by have := hp.len; simp at this ⊢; omega
    rw [hl]
    exact ⟨h1.rel,envBelow_spec h2,h1.lt⟩
   have hlen : σ.length ≤ (σ1.take σ.length).length := by have := hp.len; simp at this ⊢; omega
   cases e1 with
   | norm =>
    obtain ⟨rfl,he1⟩ := hp.ex
    simp only at hr
    split at hr
    ·rename_i hb
     cases hr
     exact hQ _ _ _ κ1 ⟨hp.inv.take hbl,hp.kept.take,hlen,hp.size,hp.defers.sto fun _ _ h => own_take h,rfl,hcut _ (he1.restrict keep) hb⟩ hd
    ·cases hr
   | exit id =>
    obtain ⟨rfl,he1⟩ := hp.ex
    simp only at hr
    split at hr
    ·rename_i hb
     cases hr
     exact hQ _ _ _ κ1 ⟨hp.inv.take hbl,hp.kept.take,hlen,hp.size,hp.defers.sto fun _ _ h => own_take h,rfl,hcut _ he1 hb⟩ hd
    ·cases hr
     exact hQ _ _ _ κ1 ⟨hp.inv.drop,hp.kept,hp.len,hp.size,hp.defers,rfl,he1⟩ hd
   | ret =>
    obtain ⟨rfl,he1⟩ := hp.ex
    simp only at hr
    split at hr
    ·rename_i hb
     cases hr
     exact hQ _ _ _ κ1 ⟨hp.inv.take hbl,hp.kept.take,hlen,hp.size,hp.defers.sto fun _ _ h => own_take h,rfl,hcut _ he1 hb⟩ hd
    ·cases hr
     exact hQ _ _ _ κ1 ⟨hp.inv.drop,hp.kept,hp.len,hp.size,hp.defers,rfl,he1⟩ hd
   | pan v =>
    cases hr
    obtain ⟨y,rfl,he1⟩ := hp.ex
    exact hQ _ _ _ κ1 ⟨hp.inv.drop,hp.kept,hp.len,hp.size,hp.defers,y,rfl,he1⟩ hd
 | rfunc x ps keep asg bd _ _ =>
  intro c hc hro bars env σ r κ a w Q hi he hs hr hQ
  have hro' : ro = none := by
   rcases hrn with h | h
   ·exact h
   ·have := hro h; simp [noRf] at this
  have hnr : ¬ nr = true := fun h => by have := hro h; simp [noRf] at this
  subst hro'
  cases c <;> simp [chkC] at hc
  rename_i y qs asg' bd'
  obtain ⟨⟨⟨⟨⟨⟨hxy,rfl⟩,hlt⟩,ha⟩,hb⟩,hna⟩,hnb⟩ := hc
  exact rf_sound hK hcalls hxy (by simpa using hlt) ha hb hna hnb hi he hs hr fun e a' w' κ' hp => hQ e a' w' κ' hp fun h => absurd h hnr
 | dfr =>
  intro c hc hro bars env σ r κ a w Q hi he hs hr hQ
  cases hr
 | stuck =>
  intro c hc hro bars env σ r κ a w Q hi he hs hr hQ
  cases hr
 | exit id keep =>
  intro c hc hro bars env σ r κ a w Q hi he hs hr hQ
  cases c <;> simp [chkC] at hc
  subst hc
  simp only [evC,Option.some.injEq] at hr
  subst hr
  exact wpIn_exit (hQ _ _ _ κ ⟨hi,Kept.refl _ _ _ _,Nat.le_refl _,rfl,.refl,rfl,he.restrict keep⟩ fun _ => rfl)
 | ret keep =>
  intro c hc hro bars env σ r κ a w Q hi he hs hr hQ
  cases c <;> simp [chkC] at hc
  simp only [evC,Option.some.injEq] at hr
  subst hr
  exact wpIn_ret (hQ _ _ _ κ ⟨hi,Kept.refl _ _ _ _,Nat.le_refl _,rfl,.refl,rfl,he.restrict keep⟩ fun _ => rfl)
end
end Go.Ev


namespace Go.Ev
variable [CodeRel]
def chkRes (P : Program) : List ResV → List ResultVar → Bool
 | [],[] => true
 | .t s :: r,.tmp t :: q => s == t && chkRes P r q
 | .cell s n :: r,.cell x t :: q => s == x && szIs P t (n.getD 1) && aggIs P t n.isSome && chkRes P r q
 | _,_ => false
def chkDfr (f : Tgt) (args : List Opd) (c : Call) : Bool :=
 match f,c.callee,c.args.toList with
 | .f n,.value (.func g),args' => n == g && decide (n < YB) && chkL args args'
 | .v x,.value y,args' => chkO x y && chkL args args'
 | _,_,_ => false
def chkDC (P : Program) (nt : Nat) : IC → Code → Bool
 | .seq a b,.seq c d => chkC P nt a c && chkDC P nt b d
 | .dfr pre _ f args rest,.seq (.region _ ops false) d =>
   ops.size == pre.length + 1 && chkOps P nt ops (List.range pre.length) pre &&
    (match ops[pre.length]? with
     | some o => o.dst.isNone && o.guard.isNone && (match o.op with | .defer c => chkDfr f args c | _ => false)
     | none => false) && chkDC P nt rest d
 | c,d => chkC P nt c d
def chkRec (nt : Nat) (x : IOper) (o : Oper) : Bool :=
 Ev.chkD nt x.dst o.dst && o.guard.isNone && (match o.op with | .call c => (match c.callee with | .builtin .recover => c.args.isEmpty | _ => false) | _ => false)
def chkOpsR (P : Program) (nt : Nat) (ops : Array Oper) : List Nat → List IOper → Bool
 | [],[] => true
 | k :: l,x :: xs => (match ops[k]? with
  | some o => (match x with
   | ⟨d,.recover,none⟩ => chkRec nt x o
   | x => chkOper P nt ops x o)
  | none => false) && chkOpsR P nt ops l xs
 | _,_ => false
def chkR (P : Program) (nt : Nat) : IC → Code → Bool
 | .seq a b,.seq c d => chkR P nt a c && chkR P nt b d
 | .cond x a b,.cond y c d => chkO x y && chkR P nt a c && chkR P nt b d
 | .reg none xs keep,.region id ops false => if hasRec xs then chkOpsR P nt ops (List.range ops.size) xs else chkC P nt (.reg none xs keep) (.region id ops false)
 | c,d => chkC P nt c d && noRf c
def unscope : Code → Code
 | .scope c => c
 | c => c
def chkF (P : Program) (f : FuncId) (fn : IF) : Bool := decide (f < YB) && match P.funcs[f]? with
 | some F => match F.body with
  | some c => decide (fn.np ≤ F.ntmps) && !(F.name == "runtime.NumGoroutine") && chkRes P fn.res F.results.toList && (if fn.mode = 2 then chkDC P F.ntmps fn.body c else if fn.mode = 3 then chkR P F.ntmps fn.body c else chkC P F.ntmps fn.body (unscope c))
  | none => false
 | none => false
section
variable {P : Program}
def resAt (tmps : Array Value) : ResultVar → Sem Value
 | .tmp t => pure (tmps.getD t undef)
 | .cell a t => do loadVar t (← asAddr (tmps.getD a undef))
theorem res_list {bars : List Nat} {κ : Kn} {σ : Sto} {w : World} {env : Env} {tmps : Array Value} (hi : INV bars κ σ w) (he : ENV κ σ.length env tmps) : ∀ {rs : List ResV} {qs : List ResultVar} {vs : List PV},chkRes P rs qs = true → ressE env σ rs = some vs →
  ∃ us : List Value,(qs.mapM (resAt tmps)).run P w = .ok us w ∧ RelL κ vs us ∧ below.belowAll σ.length vs = true
 | [],[],vs,_,h => by
  simp only [ressE,Option.some.injEq] at h
  subst h
  exact ⟨[],by simp,rfl,rfl⟩
 | [],_ :: _,_,h,_ => by simp [chkRes] at h
 | .t s :: r,[],_,h,_ => by simp [chkRes] at h
 | .cell s n :: r,[],_,h,_ => by simp [chkRes] at h
 | .t s :: r,.cell _ _ :: _,_,h,_ => by simp [chkRes] at h
 | .cell s n :: r,.tmp _ :: _,_,h,_ => by simp [chkRes] at h
 | .t s :: r,.tmp t :: q,vs,hc,h => by
  simp only [chkRes,Bool.and_eq_true,beq_iff_eq] at hc
  obtain ⟨rfl,hc⟩ := hc
  simp only [ressE,resE,Option.bind_eq_some_iff,Option.some.injEq] at h
  obtain ⟨v,hv,vs',hvs,rfl⟩ := h
  obtain ⟨us,h1,h2,h3⟩ := res_list hi he hc hvs
  refine ⟨tmps.getD s undef :: us,?_,⟨_,us,rfl,he.rel s v hv,h2⟩,by simp [below.belowAll,he.wf s v hv,h3]⟩
  simp [List.mapM_cons,resAt,h1]
 | .cell s n :: r,.cell x t :: q,vs,hc,h => by
  simp only [chkRes,Bool.and_eq_true,beq_iff_eq] at hc
  obtain ⟨⟨⟨rfl,hsz⟩,hag⟩,hc⟩ := hc
  obtain ⟨i,hti,hs⟩ := szIs_spec hsz
  simp only [ressE,resE,Option.bind_eq_some_iff,Option.some.injEq] at h
  obtain ⟨v,⟨p,hp,hv⟩,vs',hvs,rfl⟩ := h
  obtain ⟨us,h1,h2,h3⟩ := res_list hi he hc hvs
  obtain ⟨ad,cs,us',hx,hf,hlen,hm⟩ := loadE_found hi (he.rel s p hp) hv
  obtain ⟨u,hu,hrel⟩ := mkv_load (P := P) hf hm hti hs hag
  refine ⟨u :: us,?_,⟨_,us,rfl,hrel,h2⟩,by simp [below.belowAll,loadE_below hi (he.wf s p hp) hv,h3]⟩
  have hru : (resAt tmps (.cell s t)).run P w = .ok u w := by
   simp only [resAt,hx]
   simp [asAddr,hu]
  simp [List.mapM_cons,hru,h1]
theorem pack_rel {κ : Kn} {n : Nat} {vs : List PV} {us : List Value} (h : RelL κ vs us) (hb : below.belowAll n vs = true) : RelV κ (pack vs) (if h : us.toArray.size = 1 then us.toArray[0] else .tuple us.toArray) ∧ below n (pack vs) = true := by
 have hl := h.length
 match vs,us,h with
 | [],us,h =>
  simp only [RelL] at h; subst h
  exact ⟨⟨_,rfl,rfl⟩,rfl⟩
 | [v],us,h =>
  simp only [RelL] at h
  obtain ⟨u,l,rfl,h1,rfl⟩ := h
  simp only [below.belowAll,Bool.and_true] at hb
  exact ⟨h1,hb⟩
 | v :: v' :: r,us,h =>
  have hl2 : us.length = r.length + 2 := by simpa using hl.symm
  have : ¬ us.toArray.size = 1 := by simp; omega
  rw [dif_neg this]
  exact ⟨⟨_,rfl,by simpa using h⟩,hb⟩
theorem run_results {bars : List Nat} {κ : Kn} {σ : Sto} {w : World} {env : Env} {tmps : Array Value} {F : Func} (hi : INV bars κ σ w) (he : ENV κ σ.length env tmps) {rs : List ResV} {vs : List PV} (hc : chkRes P rs F.results.toList = true) (h : ressE env σ rs = some vs) :
  ∃ x,(results F tmps).run P w = .ok x w ∧ RelV κ (pack vs) x ∧ below σ.length (pack vs) = true := by
 obtain ⟨us,h1,h2,h3⟩ := res_list (P := P) hi he hc h
 obtain ⟨h4,h5⟩ := pack_rel h2 h3
 refine ⟨_,?_,h4,h5⟩
 have hm : results F tmps = (do
   let vs ← F.results.mapM (resAt tmps)
   pure (if h : vs.size = 1 then vs[0] else .tuple vs)) := by
  unfold results
  congr 1
 rw [hm,Array.mapM_eq_mapM_toList]
 simp [h1]
theorem look_arg {args : List PV} {s : Nat} {v : PV} : ∀ {i : Nat},look (argEnv i args) s = some v → i ≤ s ∧ ∃ u,args[s - i]? = some u ∧ v = Ev.norm u := by
 induction args with
 | nil => intro i h; simp [argEnv,look] at h
 | cons u r ih =>
  intro i h
  simp only [argEnv,look] at h
  split at h
  ·rename_i his; subst his; cases h
   exact ⟨Nat.le_refl _,u,by simp,rfl⟩
  ·rename_i his
   obtain ⟨h1,u',h2,h3⟩ := ih h
   refine ⟨by omega,u',?_,h3⟩
   rw [show s - i = (s - (i + 1)) + 1 by omega]; simpa using h2
theorem enter_env {κ : Kn} {n : Nat} {args : List PV} {xs : Array Value} {np : Nat} {F : Func} (hrel : RelL κ args xs.toList) (hb : below.belowAll n args = true) (hxl : xs.size = np) (hnp : np ≤ F.ntmps) : ENV κ n (argEnv 0 args) (xs ++ Array.replicate (F.ntmps - xs.size) undef) := by
 have htsz : (xs ++ Array.replicate (F.ntmps - xs.size) undef).size = F.ntmps := by simp; omega
 have g : ∀ s v,look (argEnv 0 args) s = some v → ∃ u x,args[s]? = some u ∧ xs[s]? = some x ∧ RelV κ u x ∧ below n u = true ∧ v = Ev.norm u := by
  intro s v hs
  obtain ⟨-,u,h1,h2⟩ := look_arg hs
  simp only [Nat.sub_zero] at h1
  obtain ⟨x,h3,h4⟩ := RelL.get hrel h1
  exact ⟨u,x,h1,by simpa using h3,h4,belowAll_mem hb (List.mem_of_getElem? h1),h2⟩
 refine ⟨fun s v hs => ?_,fun s v hs => ?_,fun s v hs => ?_⟩ <;> obtain ⟨u,x,h1,h3,h4,h5,rfl⟩ := g s v hs
 ·have hlt := (Array.getElem?_eq_some_iff.1 h3).1
  rw [Array.getD_eq_getD_getElem?,Array.getElem?_append_left hlt,h3]
  exact RelV.norm u x h4
 ·exact below_norm u h5
 ·have hlt := (Array.getElem?_eq_some_iff.1 h3).1
  rw [htsz]; omega
theorem look_argR {args : List PV} {s : Nat} {v : PV} : ∀ {i : Nat},look (argEnvR i args) s = some v → i ≤ s ∧ ∃ u,args[s - i]? = some u ∧ v = u := by
 induction args with
 | nil => intro i h; simp [argEnvR,look] at h
 | cons u r ih =>
  intro i h
  simp only [argEnvR,look] at h
  split at h
  ·rename_i his; subst his; cases h
   exact ⟨Nat.le_refl _,_,by simp,rfl⟩
  ·rename_i his
   obtain ⟨h1,u',h2,h3⟩ := ih h
   refine ⟨by omega,u',?_,h3⟩
   rw [show s - i = (s - (i + 1)) + 1 by omega]; simpa using h2
theorem enter_envR {κ : Kn} {n : Nat} {args : List PV} {xs : Array Value} {np : Nat} {F : Func} (hrel : RelL κ args xs.toList) (hb : below.belowAll n args = true) (hxl : xs.size = np) (hnp : np ≤ F.ntmps) : ENV κ n (argEnvR 0 args) (xs ++ Array.replicate (F.ntmps - xs.size) undef) := by
 have htsz : (xs ++ Array.replicate (F.ntmps - xs.size) undef).size = F.ntmps := by simp; omega
 have g : ∀ s v,look (argEnvR 0 args) s = some v → ∃ u x,args[s]? = some u ∧ xs[s]? = some x ∧ RelV κ u x ∧ below n u = true ∧ v = u := by
  intro s v hs
  obtain ⟨-,u,h1,h2⟩ := look_argR hs
  simp only [Nat.sub_zero] at h1
  obtain ⟨x,h3,h4⟩ := RelL.get hrel h1
  exact ⟨u,x,h1,by simpa using h3,h4,belowAll_mem hb (List.mem_of_getElem? h1),h2⟩
 refine ⟨fun s v hs => ?_,fun s v hs => ?_,fun s v hs => ?_⟩ <;> obtain ⟨u,x,h1,h3,h4,h5,rfl⟩ := g s v hs
 ·have hlt := (Array.getElem?_eq_some_iff.1 h3).1
  rw [Array.getD_eq_getD_getElem?,Array.getElem?_append_left hlt,h3]
  exact h4
 ·exact h5
 ·have hlt := (Array.getElem?_eq_some_iff.1 h3).1
  rw [htsz]; omega
theorem enter_envM {κ : Kn} {n m : Nat} {args : List PV} {xs : Array Value} {np : Nat} {F : Func} (hrel : RelL κ args xs.toList) (hb : below.belowAll n args = true) (hxl : xs.size = np) (hnp : np ≤ F.ntmps) : ENV κ n (argEnvM m args) (xs ++ Array.replicate (F.ntmps - xs.size) undef) := by
 unfold argEnvM
 split
 ·exact enter_envR hrel hb hxl hnp
 ·exact enter_env hrel hb hxl hnp
def HookOK (P : Program) (H : Hook) : Prop := ∀ f h,H f = some h → ∀ args σ r,h args σ = some r → callable P f ∧
 ∀ bars κ w (xs : Array Value),INV bars κ σ w → RelL κ args xs.toList → below.belowAll σ.length args = true → Calls P f xs w (CallPost bars κ σ w r)
theorem INV.shut {bars : List Nat} {κ0 κ : Kn} {σ0 σ : Sto} {n : Nat} {w0 w : World} {D : Nat} {ds : List Deferred} (hi : INV bars κ σ w) (hk : Kept n κ0 σ0 w0 κ σ w) (hD : w.heap[D]? = some (.deferred (some ds))) (hno : ∀ i,own κ σ i ≠ some D) (hge : w0.heap.size ≤ D) :
  INV bars κ σ (w.putObj D (.deferred none)) ∧ Kept n κ0 σ0 w0 κ σ (w.putObj D (.deferred none)) := by
 have hcell : ∀ b o v,w.cell? ⟨b,o,none⟩ = some v → b ≠ D := by
  rintro b o v h rfl
  simp [World.cell?,hD] at h
 refine ⟨⟨fun i ob hs => ?_,hi.inj,fun b o v hm => ?_,fun b hb => ?_,hi.wf,hi.wfb⟩,⟨hk.ext,by simpa using hk.size,fun b hb hno' => ?_,hk.own,hk.M,hk.os,hk.output,hk.tape⟩⟩
 ·refine obRel.keep (Ext.refl σ.length κ) (List.getElem?_eq_some_iff.1 hs).1 rfl (hi.wf i ob hs) (fun b hb => ⟨World.putObj_heap_other fun e => ?_,fun _ => rfl⟩) (hi.obs i ob hs)
  subst e
  exact hno i (by rw [own_eq hs]; exact hb)
 ·have h1 := hi.mem b o v hm
  have hne := hcell b o v h1
  simp only [World.cell?] at h1 ⊢
  rw [World.putObj_heap_other hne]; exact h1
 ·obtain ⟨c,T,fr,h1,h2⟩ := hi.cap b hb
  have hne : b ≠ D := by rintro rfl; rw [hD] at h1; cases h1
  exact ⟨c,T,fr,by rw [World.putObj_heap_other hne]; exact h1,h2⟩
 ·rw [World.putObj_heap_other (by omega : b ≠ D)]; exact hk.keep b hb hno'
theorem leaves_marks {bars : List Nat} {κ0 κ : Kn} {σ0 σ : Sto} {n : Nat} {w0 : World} {F : Func} {tmps : Array Value} {R : Ending → World → Prop} {u : FrameMode} (hu : u ≠ .run) {ds : List Deferred}
  (hQ : ∀ w,INV bars κ σ w → Kept n κ0 σ0 w0 κ σ w → LeavesInM (FW none) 0 P F tmps R ds u w) :
  ∀ (Ds : List Nat) (w : World),INV bars κ σ w → Kept n κ0 σ0 w0 κ σ w → Marks κ σ w0 w Ds → LeavesInM (FW none) 0 P F tmps R (Ds.map mark ++ ds) u w
 | [],w,hi,hk,_ => hQ w hi hk
 | D :: Ds,w,hi,hk,hm => by
  have hD := hm.at_ D (by simp)
  obtain ⟨h1,h2⟩ := hi.shut hk hD (hm.no D (by simp)) (hm.ge D (by simp))
  refine ⟨hu,.inl ⟨D,_,rfl,run_takeDeferred hD,leaves_marks hu hQ Ds _ h1 h2 ⟨(List.nodup_cons.1 hm.nd).2,fun E hE => hm.ge E (by simp [hE]),fun E hE => ?_,fun E hE => hm.no E (by simp [hE])⟩⟩⟩
  rw [World.putObj_heap_other (fun e => (List.nodup_cons.1 hm.nd).1 (by rw [← e]; exact hE))]
  exact hm.at_ E (by simp [hE])
theorem putArgs_env {κ : Kn} {n : Nat} : ∀ {ps : List Nat} {args : List PV} {xs : List Value} {env : Env} {tmps : Array Value},ENV κ n env tmps → (∀ p ∈ ps,p < tmps.size) → RelL κ args xs → below.belowAll n args = true → args.length = ps.length →
  ENV κ n (putArgs ps args env) ((ps.zip xs).foldl (fun t (p,v) => t.setIfInBounds p v) tmps)
 | [],args,xs,env,tmps,he,_,_,_,_ => by cases args <;> simpa [putArgs] using he
 | p :: ps,[],xs,env,tmps,he,_,_,_,h => by simp at h
 | p :: ps,v :: args,xs,env,tmps,he,hp,hr,hb,hl => by
  simp only [RelL] at hr
  obtain ⟨x,l',rfl,h1,h2⟩ := hr
  simp only [below.belowAll,Bool.and_eq_true] at hb
  simp only [putArgs,List.zip_cons_cons,List.foldl_cons]
  exact putArgs_env (he.cons (hp p (by simp)) (RelV.norm _ _ h1) (below_norm _ hb.1)) (fun q hq => by simpa using hp q (by simp [hq])) h2 hb.2 (by simpa using hl)
theorem foldl_size (l : List (Nat × Value)) : ∀ tmps : Array Value,(l.foldl (fun t (p,v) => t.setIfInBounds p v) tmps).size = tmps.size := by
 induction l with
 | nil => intro tmps; rfl
 | cons p l ih => intro tmps; simp [ih]
theorem round_sound (hK : ∀ ic c m,CodeRel.cd ic c m ↔ chkC P m ic c = true ∧ noRf ic = true) {calls : Sem'} (hcalls : CallsOK P calls) (n : Nat) {bars : List Nat} {l : Nat} {args : List PV} {σ : Sto} {r : Out × Sto} (hr : roundE calls (fun s x => iter s n x) bars l args σ = some r)
  {κ : Kn} {w : World} {xs : Array Value} (hi : INV bars κ σ w) (hrel : RelL κ args xs.toList) (hb : below.belowAll σ.length args = true) : κ.gen l = 1 ∧ RoundOK P (κ.ρ l).1 xs w (CallPost bars κ σ w r) := by
 have hbl : ∀ m ∈ bars,m ≤ σ.length := fun m hm => (hi.wfb m hm).1
 unfold roundE at hr
 split at hr
 case h_2 => cases hr
 rename_i env ps asg bd hs
 split at hr
 case isFalse => cases hr
 rename_i hlen
 obtain ⟨hg,rec,hrec,hps,hst,hpe,henv,hca,hcb,hpl⟩ := hi.obs l _ hs
 have hl : l < σ.length := (List.getElem?_eq_some_iff.1 hs).1
 obtain ⟨ka,na⟩ := (hK _ _ _).1 hca
 obtain ⟨kb,nb⟩ := (hK _ _ _).1 hcb
 have hxl : xs.size = args.length := by rw [← Array.length_toList]; exact hrel.length.symm
 refine ⟨hg,rec,hrec,by rw [hxl,hlen,← hps]; simp,?_⟩
 have henv0 : ENV κ σ.length env rec.tmps := ⟨fun s v hv => (henv s v hv).1,fun s v hv => look_below (by simpa [obBelow] using hi.wf l _ hs) hv,fun s v hv => (henv s v hv).2⟩
 have hz : (rec.params.zip xs).foldl (fun t (p,v) => t.setIfInBounds p v) rec.tmps = (ps.zip xs.toList).foldl (fun t (p,v) => t.setIfInBounds p v) rec.tmps := by
  rw [← hps,← Array.foldl_toList,Array.toList_zip]
 rw [hz]
 have henv1 := putArgs_env henv0 hpl hrel hb hlen
 have htsz := foldl_size (ps.zip xs.toList) rec.tmps
 refine roundIn_of_wpIn (F := Fence.wide) trivial ?_
 cases hx : evC calls (fun s x => iter s n x) (σ.length :: bars) asg (putArgs ps args env) σ with
 | none => rw [hx] at hr; cases hr
 | some r1 =>
  rw [hx] at hr
  obtain ⟨e1,env1,σ1⟩ := r1
  refine evC_sound (ro := some (κ.ρ l).1) (nr := true) hK hcalls (.inr rfl) n asg _ ka (fun _ => na) (a := { tmps := (ps.zip xs.toList).foldl (fun t (p,v) => t.setIfInBounds p v) rec.tmps,defers := [] }) hi.bar henv1 htsz hx fun e a1 w1 κ1 hp _ => ?_
  cases e1 with
  | exit id => cases hr
  | ret => cases hr
  | pan v => cases hr
  | norm =>
  obtain ⟨rfl,he1⟩ := hp.ex
  simp only at hr he1
  split at hr
  case h_2 => cases hr
  rename_i env2 ps2 a2 b2 hs1
  obtain ⟨r1,k1,k2,k3,k4,k5⟩ := INV.set_loop (st' := 1) (pend' := none) hp.inv hs1
  have hρ1 : κ1.ρ l = κ.ρ l := hp.kept.ext.ρ l hl (by rw [k1,hg])
  simp only at k4 k5
  have hst1 : r1.state = .ready := k3.2.1
  have hpe1 : r1.pending = none := k3.2.2.1
  rw [hρ1] at k2 k4 k5
  have hbeg := run_beginRound (P := P) k2 hst1
  rw [show ({ r1 with state := LoopState.busy } : Loop) = { r1 with state := stOf 1,pending := pendC none } by rw [show pendC none = r1.pending by rw [hpe1]; rfl]; rfl] at hbeg
  refine ⟨_,hbeg,?_⟩
  have hl1 : l < σ1.length := Nat.lt_of_lt_of_le hl hp.len
  have he1' : ENV κ1 (σ1.set l (.loop env2 ps2 a2 b2 1 none)).length env1 a1.tmps := by rw [List.length_set]; exact he1
  cases hx2 : evC calls (fun s x => iter s n x) (σ.length :: bars) bd env1 (σ1.set l (.loop env2 ps2 a2 b2 1 none)) with
  | none => rw [hx2] at hr; cases hr
  | some r2 =>
  rw [hx2] at hr
  obtain ⟨e2,env3,σ2⟩ := r2
  simp only at hr
  refine evC_sound (ro := some (κ.ρ l).1) (nr := true) hK hcalls (.inr rfl) n bd _ kb (fun _ => nb) k4 he1' (hp.size.trans htsz) hx2 fun e a2' w2 κ2 hp2 _ => ?_
  split at hr
  case h_2 => cases hr
  rename_i env4 ps4 a4 b4 hs2
  simp only [Option.bind_eq_some_iff,Option.some.injEq] at hr
  obtain ⟨p,hpd,rfl⟩ := hr
  obtain ⟨r2,j1,j2,j3,j4,j5⟩ := INV.set_loop (st' := if p.isNone then 0 else 2) (pend' := p) hp2.inv hs2
  simp only at j4 j5
  have hl2 : l < (σ1.set l (.loop env2 ps2 a2 b2 1 none)).length := by simpa using hl1
  have hρ2 : κ2.ρ l = κ.ρ l := by rw [hp2.kept.ext.ρ l hl2 (by rw [j1,k1]),hρ1]
  rw [hρ2] at j2 j4 j5
  have hlen2 : σ.length ≤ σ2.length := Nat.le_trans hp.len (by have := hp2.len; simpa using this)
  have hpost : CallPost bars κ σ w (.ret (.b p.isNone),(σ2.set l (.loop env4 ps4 a4 b4 (if p.isNone = true then 0 else 2) p)).take σ.length) (.returned (.bool p.isNone))
    (w2.putObj (κ.ρ l).1 (.loop { r2 with state := stOf (if p.isNone = true then 0 else 2),pending := pendC p })) := by
   refine ⟨κ2,j4.take hbl,?_,by simp; omega,_,rfl,rfl,rfl⟩
   refine Kept.take ?_
   exact ((hp.kept.trans k5 hp.len).trans hp2.kept (by simpa using hp.len)).trans j5 hlen2
  have hend : (Instr.endRound (κ.ρ l).1 (pendC p)).run P w2 = .ok (.bool p.isNone) (w2.putObj (κ.ρ l).1 (.loop { r2 with state := stOf (if p.isNone = true then 0 else 2),pending := pendC p })) := by
   have h := run_endRound (P := P) (pendC p) j2
   have hn : (pendC p).isNone = p.isNone := by rcases p with _ | _ | _ <;> rfl
   rw [h,hn]
   congr 2
   cases p.isNone <;> rfl
  cases e2 with
  | norm =>
   cases hpd
   obtain ⟨rfl,-⟩ := hp2.ex
   exact ⟨_,_,hend,hpost⟩
  | ret =>
   cases hpd
   obtain ⟨rfl,-⟩ := hp2.ex
   exact ⟨_,_,hend,hpost⟩
  | exit id =>
   cases hpd
   obtain ⟨rfl,-⟩ := hp2.ex
   exact ⟨_,_,hend,hpost⟩
  | pan v => cases hpd
def ModeOf (κ : Kn) (n : Nat) : Option PV → FrameMode → Prop
 | some v,m => ∃ x,m = .panicking [{ v := x,recovered := false }] ∧ RelV κ v x ∧ below n v = true
 | none,m => m = .returning ∨ ∃ x,m = .panicking [{ v := x,recovered := true }]
theorem ModeOf.mono {κ κ' : Kn} {n m : Nat} (he : Ext n κ κ') (hnm : n ≤ m) : ∀ {u : Option PV} {md : FrameMode},ModeOf κ n u md → ModeOf κ' m u md
 | some v,md,⟨x,h1,h2,h3⟩ => ⟨x,h1,RelV.mono he v x h3 h2,below_mono hnm v h3⟩
 | none,md,h => h
theorem opV_ev {bars : List Nat} {o : IOper} {env env' : Env} {σ σ' : Sto} (h : opV bars o env σ = some (env',σ')) (calls : Sem') : evOp1 calls bars o env σ = some (.norm,env',σ') := by
 unfold opV at h
 unfold evOp1
 split at h
 ·split at h
  ·rename_i hv; rw [hv]; cases h; rfl
  ·cases h
 ·cases h; rfl
 ·cases h
theorem chkOps_norec {nt : Nat} {ops : Array Oper} : ∀ {l : List Nat} {xs : List IOper},chkOps P nt ops l xs = true → ∀ x ∈ xs,x.op ≠ .recover
 | [],[],_,x,hx => by cases hx
 | [],_ :: _,h,_,_ => by simp [chkOps] at h
 | _ :: _,[],h,_,_ => by simp [chkOps] at h
 | k :: l,y :: xs,h,x,hx => by
  simp only [chkOps,Bool.and_eq_true] at h
  rcases List.mem_cons.1 hx with rfl | hx
  ·intro hr
   have h1 := h.1
   split at h1
   ·rename_i o ho
    simp only [chkOper,Bool.and_eq_true,hr] at h1
    have h2 := h1.2
    unfold chkOp at h2
    split at h2 <;> first | (cases h2; done) | (simp at *; done) | (rename_i h'; simp [chkCall] at h2)
   ·cases h1
  ·exact chkOps_norec h.2 x hx
theorem opsR_ev {bars : List Nat} {calls : Sem'} : ∀ {xs : List IOper} {u u' : Option PV} {env env' : Env} {σ σ' : Sto},(∀ x ∈ xs,x.op ≠ .recover) → opsR bars xs u env σ = some (u',env',σ') → u' = u ∧ evOps calls bars xs env σ = some (.norm,env',σ')
 | [],u,u',env,env',σ,σ',_,h => by
  unfold opsR at h
  simp only [Option.some.injEq,Prod.mk.injEq] at h
  obtain ⟨rfl,rfl,rfl⟩ := h
  exact ⟨rfl,rfl⟩
 | o :: xs,u,u',env,env',σ,σ',hn,h => by
  have ho := hn o (by simp)
  unfold opsR at h
  split at h
  ·exact absurd rfl ho
  ·split at h
   ·rename_i e1 s1 hv
    obtain ⟨h1,h2⟩ := opsR_ev (calls := calls) (fun x hx => hn x (by simp [hx])) h
    refine ⟨h1,?_⟩
    simp only [evOps,opV_ev hv]
    exact h2
   ·cases h
theorem ops_pre {ro : Option Nat} {nt : Nat} {calls : Sem'} (hcalls : CallsOK P calls) {ops : Array Oper} {Q : Exit → Act → World → Prop} {l' : List Nat} {bars : List Nat} : ∀ (l : List Nat) (xs : List IOper),chkOps P nt ops l xs = true → ∀ {env envF : Env} {σ σF : Sto} {κ : Kn} {a : Act} {w : World},
  INV bars κ σ w → ENV κ σ.length env a.tmps → a.tmps.size = nt → evOps calls bars xs env σ = some (.norm,envF,σF) →
  (∀ a' w' κ',INV bars κ' σF w' → Kept σ.length κ σ w κ' σF w' → σ.length ≤ σF.length → a'.tmps.size = a.tmps.size → a'.defers = a.defers → ENV κ' σF.length envF a'.tmps → wpOpsIn (FW ro) 0 P ops Q l' a' w') → wpOpsIn (FW ro) 0 P ops Q (l ++ l') a w
 | [],[],_,env,envF,σ,σF,κ,a,w,hi,he,hs,hr,hQ => by
  simp only [evOps,Option.some.injEq,Prod.mk.injEq,true_and] at hr
  obtain ⟨rfl,rfl⟩ := hr
  exact hQ a w κ hi (Kept.refl _ _ _ _) (Nat.le_refl _) rfl rfl he
 | [],_ :: _,hc,_,_,_,_,_,_,_,_,_,_,_,_ => by simp [chkOps] at hc
 | _ :: _,[],hc,_,_,_,_,_,_,_,_,_,_,_,_ => by simp [chkOps] at hc
 | k :: l,x :: xs,hc,env,envF,σ,σF,κ,a,w,hi,he,hs,hr,hQ => by
  simp only [chkOps,Bool.and_eq_true] at hc
  obtain ⟨hx,hrest⟩ := hc
  split at hx
  ·rename_i o ho
   rw [List.cons_append,wpOpsIn_cons]
   simp only [evOps] at hr
   cases h1 : evOp1 calls bars x env σ with
   | none => rw [h1] at hr; cases hr
   | some r1 =>
    rw [h1] at hr
    refine op_step hcalls ho hx hi he hs h1 fun e a1 w1 κ1 hp _ hdf => ?_
    rcases evOp1_ex h1 with hn | ⟨v,hn⟩
    ·obtain ⟨e1,env1,σ1⟩ := r1
     simp only at hn
     subst hn
     obtain ⟨rfl,he1⟩ := hp.ex
     exact ops_pre hcalls l xs hrest hp.inv he1 (hp.size.trans hs) hr fun a' w' κ' k1 k2 k3 k4 k5 k6 => hQ a' w' κ' k1 (hp.kept.trans k2 hp.len) (Nat.le_trans hp.len k3) (k4.trans hp.size) (k5.trans hdf) k6
    ·obtain ⟨e1,env1,σ1⟩ := r1
     simp only at hn
     subst hn
     cases hr
  ·cases hx
structure PostR (bars : List Nat) (κ : Kn) (σ : Sto) (w : World) (a : Act) (c₀ : Frame) (cs : List Frame) (r : Ex × Option PV × Env × Sto) (e : Exit) (a' : Act) (cs' : List Frame) (w' : World) (κ' : Kn) : Prop where
 inv : INV bars κ' r.2.2.2 w'
 kept : Kept σ.length κ σ w κ' r.2.2.2 w'
 len : σ.length ≤ r.2.2.2.length
 size : a'.tmps.size = a.tmps.size
 defers : a'.defers = a.defers
 md : ∃ m,cs' = { c₀ with mode := m } :: cs ∧ ModeOf κ' r.2.2.2.length r.2.1 m
 ex : match r.1 with
  | .norm => e = .normal ∧ ENV κ' r.2.2.2.length r.2.2.1 a'.tmps
  | .exit id => e = .exit id
  | .ret => e = .ret
  | .pan v => ∃ x,e = .panic x
theorem recoverD_some {c₀ : Frame} {cs : List Frame} {m : FrameMode} {κ : Kn} {n : Nat} {v : PV} (h : ModeOf κ n (some v) m) : ∃ x,recoverD ({ c₀ with mode := m } :: cs) = some (x,{ c₀ with mode := .panicking [{ v := x,recovered := true }] } :: cs) ∧ RelV κ v x ∧ below n v = true := by
 obtain ⟨x,rfl,h1,h2⟩ := h
 exact ⟨x,rfl,h1,h2⟩
theorem recoverD_none {c₀ : Frame} {cs : List Frame} {m : FrameMode} {κ : Kn} {n : Nat} (h : ModeOf κ n none m) : recoverD ({ c₀ with mode := m } :: cs) = none := by
 rcases h with rfl | ⟨x,rfl⟩ <;> rfl
theorem opsR_sound {nt : Nat} {ops : Array Oper} {bars : List Nat} {Q : Exit → Act → List Frame → World → Prop} {c₀ : Frame} {cs : List Frame} : ∀ (l : List Nat) (xs : List IOper),chkOpsR P nt ops l xs = true → ∀ {u u' : Option PV} {env env' : Env} {σ σ' : Sto} {κ : Kn} {a : Act} {w : World} {m : FrameMode},
  INV bars κ σ w → ENV κ σ.length env a.tmps → a.tmps.size = nt → ModeOf κ σ.length u m → opsR bars xs u env σ = some (u',env',σ') →
  (∀ a' w' κ' m',INV bars κ' σ' w' → Kept σ.length κ σ w κ' σ' w' → σ.length ≤ σ'.length → a'.tmps.size = a.tmps.size → a'.defers = a.defers → ENV κ' σ'.length env' a'.tmps → ModeOf κ' σ'.length u' m' → Q .normal a' ({ c₀ with mode := m' } :: cs) w') →
  wpOpsSIn (FW none) 0 P ops Q l a ({ c₀ with mode := m } :: cs) w
 | [],[],_,u,u',env,env',σ,σ',κ,a,w,m,hi,he,hs,hm,hr,hQ => by
  unfold opsR at hr
  simp only [Option.some.injEq,Prod.mk.injEq] at hr
  obtain ⟨rfl,rfl,rfl⟩ := hr
  exact hQ a w κ m hi (Kept.refl _ _ _ _) (Nat.le_refl _) rfl rfl he hm
 | [],_ :: _,hc,_,_,_,_,_,_,_,_,_,_,_,_,_,_,_,_ => by simp [chkOpsR] at hc
 | _ :: _,[],hc,_,_,_,_,_,_,_,_,_,_,_,_,_,_,_,_ => by simp [chkOpsR] at hc
 | k :: l,x :: xs,hc,u,u',env,env',σ,σ',κ,a,w,m,hi,he,hs,hm,hr,hQ => by
  simp only [chkOpsR,Bool.and_eq_true] at hc
  obtain ⟨hx,hrest⟩ := hc
  split at hx
  case h_2 => cases hx
  rename_i o ho
  unfold wpOpsSIn
  simp only [ho]
  refine ⟨fun _ _ => trivial,?_⟩
  unfold opsR at hr
  split at hx
  ·-- recover
   rename_i d
   simp only [chkRec,Bool.and_eq_true,Option.isNone_iff_eq_none] at hx
   obtain ⟨⟨hd,hg⟩,hop⟩ := hx
   obtain ⟨hd1,hd2⟩ := chkD_spec hd
   have hexec : (execOp a.eval o).run P w = .ok .recover w := by
    split at hop
    ·rename_i c hoc
     split at hop
     ·rename_i hcal
      have hemp : c.args = #[] := by simpa using hop
      simp [execOp,hoc,resolve,hcal,hemp,invoke,builtin]
     ·cases hop
    ·cases hop
   rw [if_pos (by unfold Region.wanted; rw [hg]),hexec]
   simp only at hr
   have hlt : ∀ d',o.dst = some d' → d' < a.tmps.size := fun d' h => by rw [hs]; rw [hd1] at h; exact hd2 d' h
   cases u with
   | some v =>
    obtain ⟨y,h1,h2,h3⟩ := recoverD_some (c₀ := c₀) (cs := cs) hm
    simp only [h1]
    refine opsR_sound l xs hrest hi (ENV.put (v := v) (by rw [hd1] at *; exact he) ?_ h2 h3) ((put_size _ _ _).trans hs) (show ModeOf κ σ.length none _ from Or.inr ⟨y,rfl⟩) (by rw [hd1]; exact hr) fun a' w' κ' m' k1 k2 k3 k4 k5 k6 k7 => hQ a' w' κ' m' k1 k2 k3 (k4.trans (put_size _ _ _)) (k5.trans (put_defers _ _ _)) k6 k7
    exact hlt
   | none =>
    simp only [recoverD_none (c₀ := c₀) (cs := cs) hm]
    refine opsR_sound l xs hrest hi (ENV.put (v := .k .nilIface) he ?_ rfl rfl) ((put_size _ _ _).trans hs) hm (by rw [hd1]; exact hr) fun a' w' κ' m' k1 k2 k3 k4 k5 k6 k7 => hQ a' w' κ' m' k1 k2 k3 (k4.trans (put_size _ _ _)) (k5.trans (put_defers _ _ _)) k6 k7
    exact hlt
  ·-- another operation
   rename_i hnr
   split at hr
   ·exact absurd rfl (hnr _)
   split at hr
   case h_2 => cases hr
   rename_i e1 s1 hv
   simp only [chkOper,Bool.and_eq_true] at hx
   obtain ⟨⟨hd,hg⟩,hop⟩ := hx
   obtain ⟨hd1,hd2⟩ := chkD_spec hd
   have hlt : ∀ d',o.dst = some d' → d' < a.tmps.size := fun d' h => by rw [hs]; rw [hd1] at h; exact hd2 d' h
   unfold opV at hv
   split at hv
   ·rename_i hw
    rw [if_pos (wanted_spec he hg hw)]
    split at hv
    case h_2 => cases hv
    rename_i v σ1 hval
    simp only [Option.some.injEq,Prod.mk.injEq] at hv
    obtain ⟨rfl,rfl⟩ := hv
    obtain ⟨κ1,w1,y,hres,h1,h2,h3,h4,h5⟩ := chkOp_sound hop hi he hval (by simp)
    have key : wpOpsSIn (FW none) 0 P ops Q l (a.put o.dst y) ({ c₀ with mode := m } :: cs) w1 := by
     refine opsR_sound l xs hrest h3 (ENV.put (he.mono h4.ext h5) hlt h1 h2) ((put_size _ _ _).trans hs) (hm.mono h4.ext h5) (by rw [hd1]; exact hr) fun a' w' κ' m' k1 k2 k3 k4 k5 k6 k7 => hQ a' w' κ' m' k1 (h4.trans k2 h5) (Nat.le_trans h5 k3) (k4.trans (put_size _ _ _)) (k5.trans (put_defers _ _ _)) k6 k7
    rcases hres with hres | ⟨hres,rfl⟩
    ·rw [hres]; exact key
    ·rw [hres]; exact key
   ·rename_i hw
    simp only [Option.some.injEq,Prod.mk.injEq] at hv
    obtain ⟨rfl,rfl⟩ := hv
    rw [if_neg (by rw [wanted_spec he hg hw]; simp)]
    exact opsR_sound l xs hrest hi (ENV.put he hlt (relV_undef κ) rfl) ((put_size _ _ _).trans hs) hm (by rw [hd1]; exact hr) fun a' w' κ' m' k1 k2 k3 k4 k5 k6 k7 => hQ a' w' κ' m' k1 k2 k3 (k4.trans (put_size _ _ _)) (k5.trans (put_defers _ _ _)) k6 k7
   ·cases hv
theorem chkR_dflt {nt : Nat} {ic : IC} {c : Code} (h1 : ∀ a b,ic ≠ .seq a b) (h2 : ∀ x a b,ic ≠ .cond x a b) (h3 : ∀ xs k,ic ≠ .reg none xs k) (h : chkR P nt ic c = true) : chkC P nt ic c = true ∧ noRf ic = true := by
 unfold chkR at h
 split at h
 ·exact absurd rfl (h1 _ _)
 ·exact absurd rfl (h2 _ _ _)
 ·exact absurd rfl (h3 _ _)
 ·simpa only [Bool.and_eq_true] using h
theorem evR_sound (hK : ∀ ic c m,CodeRel.cd ic c m ↔ chkC P m ic c = true ∧ noRf ic = true) {nt : Nat} {calls : Sem'} (hcalls : CallsOK P calls) (n : Nat) {c₀ : Frame} {cs : List Frame} : ∀ (ic : IC) (c : Code),chkR P nt ic c = true → ∀ {bars : List Nat} {u : Option PV} {env : Env} {σ : Sto} {r : Ex × Option PV × Env × Sto} {κ : Kn} {a : Act} {w : World} {m : FrameMode} {Q : Exit → Act → List Frame → World → Prop},
  INV bars κ σ w → ENV κ σ.length env a.tmps → a.tmps.size = nt → ModeOf κ σ.length u m → evR (evC calls (fun s x => iter s n x)) bars ic u env σ = some r → (∀ e a' cs' w' κ',PostR bars κ σ w a c₀ cs r e a' cs' w' κ' → Q e a' cs' w') → c.wpSIn (FW none) 0 P Q a ({ c₀ with mode := m } :: cs) w := by
 intro ic
 have dflt : ∀ (ic : IC) (c : Code),chkC P nt ic c = true ∧ noRf ic = true → ∀ {bars : List Nat} {u : Option PV} {env : Env} {σ : Sto} {r : Ex × Option PV × Env × Sto} {κ : Kn} {a : Act} {w : World} {m : FrameMode} {Q : Exit → Act → List Frame → World → Prop},
   INV bars κ σ w → ENV κ σ.length env a.tmps → a.tmps.size = nt → ModeOf κ σ.length u m → evRd (evC calls (fun s x => iter s n x)) bars ic u env σ = some r → (∀ e a' cs' w' κ',PostR bars κ σ w a c₀ cs r e a' cs' w' κ' → Q e a' cs' w') → c.wpSIn (FW none) 0 P Q a ({ c₀ with mode := m } :: cs) w := by
  intro ic c hc bars u env σ r κ a w m Q hi he hs hm hr hQ
  unfold evRd at hr
  cases hx : evC calls (fun s x => iter s n x) bars ic env σ with
  | none => rw [hx] at hr; cases hr
  | some r1 =>
   rw [hx] at hr
   obtain ⟨e1,env1,σ1⟩ := r1
   cases hr
   refine wpSIn_of_wpIn rfl (evC_sound (ro := none) (nr := true) hK hcalls (.inl rfl) n ic c hc.1 (fun _ => hc.2) hi he hs hx fun e a' w' κ' hp hd => ?_)
   refine hQ e a' _ w' κ' ⟨hp.inv,hp.kept,hp.len,hp.size,hd rfl,⟨m,rfl,hm.mono hp.kept.ext hp.len⟩,?_⟩
   have hex := hp.ex
   cases e1 with
   | norm => exact hex
   | exit id => exact hex.1
   | ret => exact hex.1
   | pan v => obtain ⟨y,h1,-⟩ := hex; exact ⟨_,h1⟩
 induction ic with
 | seq x y ihx ihy =>
  intro c hc bars u env σ r κ a w m Q hi he hs hm hr hQ
  cases c <;> simp [chkR,chkC] at hc
  rename_i c d
  simp only [evR] at hr
  refine wpSIn_seq ?_
  cases hx : evR (evC calls (fun s x => iter s n x)) bars x u env σ with
  | none => rw [hx] at hr; cases hr
  | some r1 =>
   rw [hx] at hr
   refine ihx c hc.1 hi he hs hm hx fun e a1 cs1 w1 κ1 hp => ?_
   obtain ⟨e1,u1,env1,σ1⟩ := r1
   obtain ⟨m1,rfl,hm1⟩ := hp.md
   cases e1 with
   | norm =>
    obtain ⟨rfl,he1⟩ := hp.ex
    refine ihy d hc.2 hp.inv he1 (hp.size.trans hs) hm1 hr fun e a' cs' w' κ' hp' => hQ e a' cs' w' κ' ⟨hp'.inv,hp.kept.trans hp'.kept hp.len,Nat.le_trans hp.len hp'.len,hp'.size.trans hp.size,hp'.defers.trans hp.defers,hp'.md,hp'.ex⟩
   | exit id => cases hr; have := hp.ex; subst this; exact hQ _ _ _ _ κ1 hp
   | ret => cases hr; have := hp.ex; subst this; exact hQ _ _ _ _ κ1 hp
   | pan v => cases hr; obtain ⟨y,rfl⟩ := hp.ex; exact hQ _ _ _ _ κ1 hp
 | cond x y z ihy ihz =>
  intro c hc bars u env σ r κ a w m Q hi he hs hm hr hQ
  cases c <;> simp [chkR,chkC] at hc
  simp only [evR] at hr
  split at hr
  ·rename_i hx
   have hb := (chkO_spec he hc.1.1 hx).1
   simp only [RelV] at hb
   exact wpSIn_cond hb (ihy _ hc.1.2 hi he hs hm hr hQ)
  ·rename_i hx
   have hb := (chkO_spec he hc.1.1 hx).1
   simp only [RelV] at hb
   exact wpSIn_cond hb (ihz _ hc.2 hi he hs hm hr hQ)
  ·cases hr
 | reg d xs keep =>
  intro c hc bars u env σ r κ a w m Q hi he hs hm hr hQ
  cases d with
  | some ix =>
   have hc' := chkR_dflt (P := P) (nt := nt) (ic := .reg (some ix) xs keep) (c := c) (by simp) (by simp) (by simp) hc
   exact dflt _ c hc' hi he hs hm hr hQ
  | none =>
   by_cases hh : hasRec xs = true
   ·simp only [evR,if_pos hh] at hr
    obtain ⟨id,ops,rfl,hcr⟩ : ∃ id ops,c = .region id ops false ∧ chkOpsR P nt ops (List.range ops.size) xs = true := by
     cases c <;> first | (simp [chkR,chkC] at hc; done) | skip
     rename_i id ops d'
     cases d' <;> first | (simp [chkR,chkC] at hc; done) | skip
     unfold chkR at hc
     rw [if_pos hh] at hc
     exact ⟨id,ops,rfl,hc⟩
    split at hr
    ·rename_i u1 env1 σ1 hops
     cases hr
     refine wpSIn_region (opsR_sound _ _ hcr hi he hs hm hops fun a' w' κ' m' k1 k2 k3 k4 k5 k6 k7 => hQ .normal a' _ w' κ' ⟨k1,k2,k3,k4,k5,⟨m',rfl,k7⟩,rfl,k6.restrict keep⟩)
    ·cases hr
   ·simp only [evR,if_neg hh] at hr
    have hc' : chkC P nt (.reg none xs keep) c = true := by
     cases c <;> first | (simp [chkR,chkC] at hc; done) | skip
     rename_i id ops d'
     cases d' with
     | true => simp [chkR,chkC] at hc
     | false =>
      unfold chkR at hc
      rw [if_neg hh] at hc
      exact hc
    exact dflt _ c ⟨hc',rfl⟩ hi he hs hm hr hQ
 | skip  => exact fun c hc bars u env σ r κ a w m Q hi he hs hm hr hQ => dflt .skip c (chkR_dflt (by simp) (by simp) (by simp) hc) hi he hs hm hr hQ
 | stuck  => exact fun c hc bars u env σ r κ a w m Q hi he hs hm hr hQ => dflt .stuck c (chkR_dflt (by simp) (by simp) (by simp) hc) hi he hs hm hr hQ
 | psa x l _ => exact fun c hc bars u env σ r κ a w m Q hi he hs hm hr hQ => dflt (.psa x l) c (chkR_dflt (by simp) (by simp) (by simp) hc) hi he hs hm hr hQ
 | ps l x _ => exact fun c hc bars u env σ r κ a w m Q hi he hs hm hr hQ => dflt (.ps l x) c (chkR_dflt (by simp) (by simp) (by simp) hc) hi he hs hm hr hQ
 | block id x _ => exact fun c hc bars u env σ r κ a w m Q hi he hs hm hr hQ => dflt (.block id x) c (chkR_dflt (by simp) (by simp) (by simp) hc) hi he hs hm hr hQ
 | loop x _ => exact fun c hc bars u env σ r κ a w m Q hi he hs hm hr hQ => dflt (.loop x) c (chkR_dflt (by simp) (by simp) (by simp) hc) hi he hs hm hr hQ
 | cut x keep _ => exact fun c hc bars u env σ r κ a w m Q hi he hs hm hr hQ => dflt (.cut x keep) c (chkR_dflt (by simp) (by simp) (by simp) hc) hi he hs hm hr hQ
 | rfunc f ps keep asg bd _ _ => exact fun c hc bars u env σ r κ a w m Q hi he hs hm hr hQ => dflt (.rfunc f ps keep asg bd) c (chkR_dflt (by simp) (by simp) (by simp) hc) hi he hs hm hr hQ
 | dfr pre keep f args rest _ => exact fun c hc bars u env σ r κ a w m Q hi he hs hm hr hQ => dflt (.dfr pre keep f args rest) c (chkR_dflt (by simp) (by simp) (by simp) hc) hi he hs hm hr hQ
 | exit id keep => exact fun c hc bars u env σ r κ a w m Q hi he hs hm hr hQ => dflt (.exit id keep) c (chkR_dflt (by simp) (by simp) (by simp) hc) hi he hs hm hr hQ
 | ret keep => exact fun c hc bars u env σ r κ a w m Q hi he hs hm hr hQ => dflt (.ret keep) c (chkR_dflt (by simp) (by simp) (by simp) hc) hi he hs hm hr hQ
theorem opsR_u {bars : List Nat} : ∀ {xs : List IOper} {u u' : Option PV} {env env' : Env} {σ σ' : Sto},opsR bars xs u env σ = some (u',env',σ') → u' = u ∨ u' = none
 | [],u,u',env,env',σ,σ',h => by
  unfold opsR at h
  simp only [Option.some.injEq,Prod.mk.injEq] at h
  exact .inl h.1.symm
 | o :: xs,u,u',env,env',σ,σ',h => by
  unfold opsR at h
  split at h
  ·rcases opsR_u h with h | h <;> exact .inr h
  ·split at h
   ·exact opsR_u h
   ·cases h
theorem evR_u {C : CSem} : ∀ {c : IC} {bars : List Nat} {u : Option PV} {env : Env} {σ : Sto} {e : Ex} {u' : Option PV} {env' : Env} {σ' : Sto},evR C bars c u env σ = some (e,u',env',σ') → u' = u ∨ u' = none := by
 intro c
 have dflt : ∀ {c : IC} {bars : List Nat} {u : Option PV} {env : Env} {σ : Sto} {e : Ex} {u' : Option PV} {env' : Env} {σ' : Sto},evRd C bars c u env σ = some (e,u',env',σ') → u' = u ∨ u' = none := by
  intro c bars u env σ e u' env' σ' h
  unfold evRd at h
  split at h
  ·simp only [Option.some.injEq,Prod.mk.injEq] at h; exact .inl h.2.1.symm
  ·cases h
 induction c with
 | seq a b iha ihb =>
  intro bars u env σ e u' env' σ' h
  simp only [evR] at h
  cases ha : evR C bars a u env σ with
  | none => rw [ha] at h; cases h
  | some y =>
   rw [ha] at h
   obtain ⟨e1,u1,env1,σ1⟩ := y
   have h1 := iha ha
   cases e1 with
   | norm => rcases ihb h with h2 | h2 <;> rcases h1 with h1 | h1 <;> simp_all
   | exit id => simp only [Option.some.injEq,Prod.mk.injEq] at h; obtain ⟨-,rfl,-⟩ := h; exact h1
   | ret => simp only [Option.some.injEq,Prod.mk.injEq] at h; obtain ⟨-,rfl,-⟩ := h; exact h1
   | pan v => simp only [Option.some.injEq,Prod.mk.injEq] at h; obtain ⟨-,rfl,-⟩ := h; exact h1
 | cond c a b iha ihb =>
  intro bars u env σ e u' env' σ' h
  simp only [evR] at h
  split at h
  ·exact iha h
  ·exact ihb h
  ·cases h
 | reg d ops keep =>
  intro bars u env σ e u' env' σ' h
  cases d with
  | some ix => exact dflt h
  | none =>
   simp only [evR] at h
   split at h
   ·split at h
    ·rename_i ho
     simp only [Option.some.injEq,Prod.mk.injEq] at h
     obtain ⟨-,rfl,-⟩ := h
     exact opsR_u ho
    ·cases h
   ·exact dflt h
 | _ => exact fun h => dflt h
theorem chkDC_dflt {nt : Nat} {ic : IC} {c : Code} (h1 : ∀ a b,ic ≠ .seq a b) (h2 : ∀ p k f a r,ic ≠ .dfr p k f a r) (h : chkDC P nt ic c = true) : chkC P nt ic c = true := by
 unfold chkDC at h
 split at h
 ·exact absurd rfl (h1 _ _)
 ·exact absurd rfl (h2 _ _ _ _ _)
 ·exact h
theorem Marks.keep {κ κ' : Kn} {σ σ' : Sto} {n : Nat} {w0 w w' : World} {Ds : List Nat} (h : Marks κ σ w0 w Ds) (hk : Kept n κ σ w κ' σ' w') (hs : w0.heap.size ≤ w.heap.size) : Marks κ' σ' w0 w' Ds := by
 have hlt : ∀ D ∈ Ds,D < w.heap.size := fun D hD => (Array.getElem?_eq_some_iff.1 (h.at_ D hD)).1
 refine ⟨h.nd,h.ge,fun D hD => ?_,fun D hD i hi => ?_⟩
 ·rw [hk.keep D (hlt D hD) (h.no D hD)]; exact h.at_ D hD
 ·rcases hk.own i D hi with ⟨j,hj⟩ | hge
  ·exact h.no D hD j hj
  ·have := hlt D hD; omega
theorem dfr_resolve {κ : Kn} {σ : Sto} {env : Env} {a : Act} {w : World} {f : Tgt} {args : List Opd} {c : Call} {t : TypeId} {vs cap : List PV} {g : FuncId} (he : ENV κ σ.length env a.tmps) (hc : chkDfr f args c = true) (hv : evs env args = some vs) (ht : dtgt env f = some (g,cap)) :
  ∃ xs caps : Array Value,(resolve a.eval c t).run P w = .ok { target := .fn (.func g) caps,args := xs } w ∧ RelL κ (vs ++ cap) (xs ++ caps).toList ∧ below.belowAll σ.length (vs ++ cap) = true ∧ g < YB := by
 unfold chkDfr at hc
 split at hc
 ·rename_i m g' hcal
  simp only [Bool.and_eq_true,beq_iff_eq,decide_eq_true_eq] at hc
  obtain ⟨⟨rfl,hlt⟩,hl⟩ := hc
  simp only [dtgt,if_pos hlt,Option.some.injEq,Prod.mk.injEq] at ht
  obtain ⟨rfl,rfl⟩ := ht
  obtain ⟨h1,h2⟩ := chkL_spec hl
  obtain ⟨h3,h4⟩ := evs_spec he h1 h2 hv
  exact ⟨c.args.map a.eval,#[],by simp [resolve,hcal,Deferred.ofValue,Act.eval],by simpa using h3,by simpa using h4,hlt⟩
 ·rename_i x y hcal
  simp only [Bool.and_eq_true] at hc
  obtain ⟨h1,h2⟩ := chkL_spec hc.2
  obtain ⟨h3,h4⟩ := evs_spec he h1 h2 hv
  simp only [dtgt] at ht
  split at ht
  ·rename_i m cap' hx
   split at ht
   ·rename_i hlt
    simp only [Option.some.injEq,Prod.mk.injEq] at ht
    obtain ⟨rfl,rfl⟩ := ht
    obtain ⟨⟨us,h5,h6⟩,h7⟩ := chkO_spec he hc.1 hx
    refine ⟨c.args.map a.eval,us,by simp [resolve,hcal,Deferred.ofValue,h5],by simpa using RelL.append h3 h6,?_,hlt⟩
    simp only [below] at h7
    simp [belowAll_append,h4,h7]
   ·cases ht
  ·cases ht
 ·cases hc
theorem dcall_sound (hK : ∀ ic c m,CodeRel.cd ic c m ↔ chkC P m ic c = true ∧ noRf ic = true) {T : FuncId → Option IF} (hT : ∀ f fn,T f = some fn → chkF P f fn = true) {calls : Sem'} (hcalls : CallsOK P calls) (n : Nat) {bars : List Nat} {g : FuncId} {args : List PV} {u u' : Option PV} {σ σ' : Sto}
  (hr : dcall T (evC calls (fun s x => iter s n x)) bars g args u σ = some (u',σ')) {κ : Kn} {w : World} {xs : Array Value} {m : FrameMode} (hi : INV bars κ σ w) (hrel : RelL κ args xs.toList) (hb : below.belowAll σ.length args = true) (hm : ModeOf κ σ.length u m) :
  callable P g ∧ CallsDIn (FW none) 0 P g xs m w fun e m' w' => ∃ κ' v,e = .returned v ∧ INV bars κ' σ' w' ∧ Kept σ.length κ σ w κ' σ' w' ∧ σ'.length = σ.length ∧ ModeOf κ' σ'.length u' m' := by
 have hbl : ∀ m ∈ bars,m ≤ σ.length := fun m hm => (hi.wfb m hm).1
 unfold dcall at hr
 cases hfn : T g with
 | none => rw [hfn] at hr; cases hr
 | some fn =>
 rw [hfn] at hr
 simp only at hr
 have hchk := hT g fn hfn
 unfold chkF at hchk
 rw [Bool.and_eq_true] at hchk
 have hchk := hchk.2
 split at hchk
 case h_2 => cases hchk
 rename_i F hF
 split at hchk
 case h_2 => cases hchk
 rename_i c hbody
 simp only [Bool.and_eq_true,decide_eq_true_eq,Bool.not_eq_true'] at hchk
 obtain ⟨⟨⟨hnp,hname⟩,hres⟩,hcode⟩ := hchk
 split at hr
 case isFalse => cases hr
 rename_i hcond
 obtain ⟨hmode,hlen,hemp⟩ := hcond
 rw [if_neg (by omega),if_pos hmode] at hcode
 refine ⟨⟨F,hF,by rw [hbody]; rfl,hname⟩,?_⟩
 have hxl : xs.size = fn.np := by rw [← hlen,← Array.length_toList]; exact hrel.length.symm
 have htsz : (xs ++ Array.replicate (F.ntmps - xs.size) undef).size = F.ntmps := by simp; omega
 have henv := enter_env (F := F) hrel hb hxl hnp
 cases hx : evR (evC calls (fun s x => iter s n x)) (σ.length :: bars) fn.body u (argEnv 0 args) σ with
 | none => rw [hx] at hr; cases hr
 | some r1 =>
 rw [hx] at hr
 obtain ⟨e1,u1,env1,σ1⟩ := r1
 refine callsDIn_of_wpSIn hF hbody trivial fun c₀ cs hc₀ => ?_
 have hc0 : ({ c₀ with mode := m } : Frame) = c₀ := by subst hc₀; rfl
 have key := evR_sound (c₀ := c₀) (cs := cs) hK hcalls n fn.body c hcode (u := u) (m := m) (Q := bodyPostS P F c₀ cs fun e m' w' => ∃ κ' v,e = .returned v ∧ INV bars κ' σ' w' ∧ Kept σ.length κ σ w κ' σ' w' ∧ σ'.length = σ.length ∧ ModeOf κ' σ'.length u' m') (a := { tmps := xs ++ Array.replicate (F.ntmps - xs.size) undef,defers := [] }) (κ := κ) (w := w) hi.bar henv htsz hm hx fun e a' cs' w' κ' hp => ?_
 ·rw [hc0] at key; exact key
 ·obtain ⟨m',rfl,hm'⟩ := hp.md
  have hdef : a'.defers = [] := hp.defers
  have hlen1 : (σ1.take σ.length).length = σ.length := by have := hp.len; simp at this ⊢; omega
  have hres0 : fn.res = [] := by simpa using hemp
  have fin : some (u1,σ1.take σ.length) = some (u',σ') → ∃ v,(results F a'.tmps).run P w' = .ok v w' ∧ ∃ κ'' v',Ending.returned v = .returned v' ∧ INV bars κ'' σ' w' ∧ Kept σ.length κ σ w κ'' σ' w' ∧ σ'.length = σ.length ∧ ModeOf κ'' σ'.length u' m' := by
   intro h
   simp only [Option.some.injEq,Prod.mk.injEq] at h
   obtain ⟨rfl,rfl⟩ := h
   obtain ⟨x,h1,-,-⟩ := run_results (P := P) (F := F) (tmps := a'.tmps) (env := []) (rs := []) (vs := []) hp.inv ⟨fun s v h => by simp [look] at h,fun s v h => by simp [look] at h,fun s v h => by simp [look] at h⟩ (by rw [hres0] at hres; exact hres) rfl
   refine ⟨x,h1,κ',x,rfl,hp.inv.take hbl,hp.kept.take,hlen1,?_⟩
   rw [hlen1]
   cases u1 with
   | none => exact hm'
   | some v =>
    have hu : u = some v := by rcases evR_u hx with h | h <;> simp_all
    subst hu
    obtain ⟨y,e1,e2,-⟩ := hm'
    obtain ⟨-,-,-,e3⟩ := hm
    exact ⟨y,e1,e2,e3⟩
  cases e1 with
  | norm =>
   obtain ⟨rfl,-⟩ := hp.ex
   obtain ⟨x,h1,h2⟩ := fin hr
   exact ⟨hdef,m',rfl,x,h1,h2⟩
  | ret =>
   have := hp.ex
   simp only at this
   subst this
   obtain ⟨x,h1,h2⟩ := fin hr
   exact ⟨hdef,m',rfl,x,h1,h2⟩
  | exit id => cases hr
  | pan v => cases hr
theorem evD_sound (hK : ∀ ic c m,CodeRel.cd ic c m ↔ chkC P m ic c = true ∧ noRf ic = true) {T : FuncId → Option IF} (hT : ∀ f fn,T f = some fn → chkF P f fn = true) {calls : Sem'} (hcalls : CallsOK P calls) (n : Nat) {nt : Nat} {F : Func} {R : Ending → World → Prop} {bars : List Nat} :
  ∀ (ic : IC) (c : Code),chkDC P nt ic c = true → ∀ {env env' : Env} {u : Option PV} {σ σ' : Sto} {κ : Kn} {a : Act} {w : World},
  INV bars κ σ w → ENV κ σ.length env a.tmps → a.tmps.size = nt → evD T (evC calls (fun s x => iter s n x)) bars ic env σ = some (u,env',σ') →
  (∀ tmps' w' κ' m,INV bars κ' σ' w' → Kept σ.length κ σ w κ' σ' w' → σ.length ≤ σ'.length → ENV κ' σ'.length env' tmps' → tmps'.size = nt → (match u with | none => m = .returning | some v => ∃ x,m = .panicking [{ v := x,recovered := false }] ∧ RelV κ' v x ∧ below σ'.length v = true) → LeavesInM (FW none) 0 P F tmps' R a.defers m w') →
  c.wpIn (FW none) 0 P (bodyPostM (FW none) 0 P F R) a w := by
 intro ic
 have leaf : ∀ {r1 : Ex × Env × Sto} {env' : Env} {u : Option PV} {σ σ' : Sto} {κ κ1 : Kn} {a a1 : Act} {w w1 : World} {e : Exit},
   (match (some r1 : Option (Ex × Env × Sto)) with
    | some (.norm,env',σ') => some (none,env',σ')
    | some (.ret,env',σ') => some (none,env',σ')
    | some (.pan v,env',σ') => some (some v,env',σ')
    | _ => none) = some (u,env',σ') → a.tmps.size = nt → Post bars κ σ w a r1 e a1 w1 κ1 →
   (∀ tmps' w' κ' m,INV bars κ' σ' w' → Kept σ.length κ σ w κ' σ' w' → σ.length ≤ σ'.length → ENV κ' σ'.length env' tmps' → tmps'.size = nt → (match u with | none => m = .returning | some v => ∃ x,m = .panicking [{ v := x,recovered := false }] ∧ RelV κ' v x ∧ below σ'.length v = true) → LeavesInM (FW none) 0 P F tmps' R a.defers m w') →
   bodyPostM (FW none) 0 P F R e a1 w1 := by
  intro r1 env' u σ σ' κ κ1 a a1 w w1 e hr hs hp hQ
  obtain ⟨e1,env1,σ1⟩ := r1
  obtain ⟨Ds,hdef,hmk⟩ := hp.defers
  have go : ∀ m,m ≠ .run → ENV κ1 σ1.length env1 a1.tmps → (env',σ') = (env1,σ1) → (match u with | none => m = .returning | some v => ∃ x,m = .panicking [{ v := x,recovered := false }] ∧ RelV κ1 v x ∧ below σ1.length v = true) → LeavesInM (FW none) 0 P F a1.tmps R a1.defers m w1 := by
   intro m hm he1 heq hu
   simp only [Prod.mk.injEq] at heq
   obtain ⟨rfl,rfl⟩ := heq
   rw [hdef]
   exact leaves_marks (κ0 := κ) (σ0 := σ) (n := σ.length) (w0 := w) hm (fun w' hinv hkept => hQ a1.tmps w' κ1 m hinv hkept hp.len he1 (hp.size.trans hs) hu) Ds w1 hp.inv hp.kept hmk
  cases e1 with
  | norm =>
   simp only [Option.some.injEq,Prod.mk.injEq] at hr
   obtain ⟨rfl,rfl,rfl⟩ := hr
   obtain ⟨rfl,he1⟩ := hp.ex
   exact go .returning (by simp) he1 rfl rfl
  | ret =>
   simp only [Option.some.injEq,Prod.mk.injEq] at hr
   obtain ⟨rfl,rfl,rfl⟩ := hr
   obtain ⟨rfl,he1⟩ := hp.ex
   exact go .returning (by simp) he1 rfl rfl
  | exit id => cases hr
  | pan v =>
   simp only [Option.some.injEq,Prod.mk.injEq] at hr
   obtain ⟨rfl,rfl,rfl⟩ := hr
   obtain ⟨y,rfl,h1,h2,he1⟩ := hp.ex
   exact go (.panicking _) (by simp) he1 rfl ⟨y,rfl,h1,h2⟩
 have dflt : ∀ (ic : IC) (c : Code),chkC P nt ic c = true → ∀ {env env' : Env} {u : Option PV} {σ σ' : Sto} {κ : Kn} {a : Act} {w : World},
   INV bars κ σ w → ENV κ σ.length env a.tmps → a.tmps.size = nt → evDd (evC calls (fun s x => iter s n x)) bars ic env σ = some (u,env',σ') →
   (∀ tmps' w' κ' m,INV bars κ' σ' w' → Kept σ.length κ σ w κ' σ' w' → σ.length ≤ σ'.length → ENV κ' σ'.length env' tmps' → tmps'.size = nt → (match u with | none => m = .returning | some v => ∃ x,m = .panicking [{ v := x,recovered := false }] ∧ RelV κ' v x ∧ below σ'.length v = true) → LeavesInM (FW none) 0 P F tmps' R a.defers m w') →
   c.wpIn (FW none) 0 P (bodyPostM (FW none) 0 P F R) a w := by
  intro ic c hc env env' u σ σ' κ a w hi he hs hr hQ
  unfold evDd at hr
  cases hx : evC calls (fun s x => iter s n x) bars ic env σ with
  | none => rw [hx] at hr; cases hr
  | some r1 =>
   rw [hx] at hr
   exact evC_sound (ro := none) (nr := false) hK hcalls (.inl rfl) n ic c hc (fun h => by cases h) hi he hs hx fun e a1 w1 κ1 hp _ => leaf hr hs hp hQ
 induction ic with
 | seq x y ihx ihy =>
  intro c hc env env' u σ σ' κ a w hi he hs hr hQ
  cases c <;> simp only [chkDC,chkC,Bool.and_eq_true] at hc <;> first | (cases hc; done) | skip
  rename_i c d
  simp only [evD] at hr
  refine wpIn_seq ?_
  cases hx : evC calls (fun s x => iter s n x) bars x env σ with
  | none => rw [hx] at hr; cases hr
  | some r1 =>
   rw [hx] at hr
   refine evC_sound (ro := none) (nr := false) hK hcalls (.inl rfl) n x c hc.1 (fun h => by cases h) hi he hs hx fun e a1 w1 κ1 hp _ => ?_
   obtain ⟨e1,env1,σ1⟩ := r1
   cases e1 with
   | norm =>
    obtain ⟨rfl,he1⟩ := hp.ex
    obtain ⟨Ds,hdef,hmk⟩ := hp.defers
    refine ihy d hc.2 hp.inv he1 (hp.size.trans hs) hr fun tmps' w' κ' m k1 k2 k3 k4 k5 k6 => ?_
    rw [hdef]
    have hmk' := hmk.keep k2 hp.kept.size
    refine leaves_marks (κ0 := κ) (σ0 := σ) (n := σ.length) (w0 := w) ?_ (fun w'' hinv hkept => hQ tmps' w'' κ' m hinv hkept (Nat.le_trans hp.len k3) k4 k5 k6) Ds w' k1 (hp.kept.trans k2 hp.len) hmk'
    intro hmr
    subst hmr
    cases u with
    | none => cases k6
    | some v => obtain ⟨y,h,-⟩ := k6; cases h
   | exit id => cases hr
   | ret =>
    have := leaf (r1 := (.ret,env1,σ1)) (u := u) (env' := env') (σ' := σ') hr hs hp hQ
    obtain ⟨rfl,-⟩ := hp.ex
    exact this
   | pan v =>
    have := leaf (r1 := (.pan v,env1,σ1)) (u := u) (env' := env') (σ' := σ') hr hs hp hQ
    obtain ⟨y,rfl,-⟩ := hp.ex
    exact this
 | dfr pre keep f args rest ih =>
  intro c hc env env' u σ σ' κ a w hi he hs hr hQ
  obtain ⟨id,ops,d,rfl,hsz,hpre,o,ho,hdst,hgd,dc,hop,hdf,hrest⟩ : ∃ id ops d,c = .seq (.region id ops false) d ∧ ops.size = pre.length + 1 ∧ chkOps P nt ops (List.range pre.length) pre = true ∧ ∃ o,ops[pre.length]? = some o ∧ o.dst = none ∧ o.guard = none ∧ ∃ dc,o.op = .defer dc ∧ chkDfr f args dc = true ∧ chkDC P nt rest d = true := by
   cases c <;> first | (simp [chkDC,chkC] at hc; done) | skip
   rename_i c d
   cases c <;> first | (simp [chkDC,chkC] at hc; done) | skip
   rename_i id ops dr
   cases dr <;> first | (simp [chkDC,chkC] at hc; done) | skip
   simp only [chkDC,Bool.and_eq_true,beq_iff_eq] at hc
   obtain ⟨⟨⟨h1,h2⟩,h3⟩,h4⟩ := hc
   split at h3
   ·rename_i o ho
    simp only [Bool.and_eq_true,Option.isNone_iff_eq_none] at h3
    obtain ⟨⟨h5,h6⟩,h7⟩ := h3
    split at h7
    ·rename_i dc hdc
     exact ⟨id,ops,d,rfl,h1,h2,o,ho,h5,h6,dc,hdc,h7,h4⟩
    ·cases h7
   ·cases h3
  simp only [evD] at hr
  split at hr
  case h_2 => cases hr
  rename_i u0 env1 σ1 hops
  split at hr
  case h_2 => cases hr
  rename_i vs g cap hvs htg
  split at hr
  case h_2 => cases hr
  rename_i u2 env2 σ2 hrec
  split at hr
  case h_2 => cases hr
  rename_i u3 σ3 hdc
  simp only [Option.some.injEq,Prod.mk.injEq] at hr
  obtain ⟨rfl,rfl,rfl⟩ := hr
  refine wpIn_seq (wpIn_region ?_)
  have hrange : List.range ops.size = List.range pre.length ++ [pre.length] := by rw [hsz,List.range_succ]
  rw [hrange]
  obtain ⟨-,hev⟩ := opsR_ev (calls := calls) (chkOps_norec hpre) hops
  refine ops_pre hcalls _ _ hpre hi he hs hev fun a1 w1 κ1 k1 k2 k3 k4 k5 k6 => ?_
  obtain ⟨d1,d2,d3⟩ : ∃ xs caps : Array Value,(resolve a1.eval dc o.type).run P w1 = .ok { target := .fn (.func g) caps,args := xs } w1 ∧ RelL κ1 (vs ++ cap) (xs ++ caps).toList ∧ below.belowAll σ1.length (vs ++ cap) = true ∧ g < YB :=
   dfr_resolve k6 hdf hvs htg
  obtain ⟨d3,d4,d5,d6⟩ := d3
  rw [wpOpsIn_cons]
  unfold wpOpIn
  simp only [ho]
  rw [if_pos (by unfold Region.wanted; rw [hgd])]
  refine ⟨fun _ _ => trivial,?_⟩
  have hsem : ((o.semAt (FW none).round a1.eval).run P w1) = .ok (.defer { target := .fn (.func g) d2,args := d1 }) w1 := by
   show ((execOp a1.eval o).run P w1) = _
   simp [execOp,hop,Sem.run_bind,d3,Result.andThen]
  rw [hsem]
  rw [Oper.uponIn_defer,hdst]
  show wpOpsIn (FW none) 0 P ops _ [] { a1 with defers := { target := .fn (.func g) d2,args := d1 } :: a1.defers } w1
  show Code.wpIn (FW none) 0 P d (bodyPostM (FW none) 0 P F R) { a1 with defers := { target := .fn (.func g) d2,args := d1 } :: a1.defers } w1
  refine ih d hrest (a := { a1 with defers := { target := .fn (.func g) d2,args := d1 } :: a1.defers }) k1 (k6.restrict keep) (k4.trans hs) hrec fun tmps' w' κ' m j1 j2 j3 j4 j5 j6 => ?_
  have hmode : ModeOf κ' σ2.length u2 m := by
   cases u2 with
   | none => exact .inl j6
   | some v => exact j6
  have hrel' : RelL κ' (vs ++ cap) (d1 ++ d2).toList := RelL.mono j2.ext _ _ d5 d4
  obtain ⟨hca,hcd⟩ := dcall_sound hK hT hcalls n hdc (xs := d1 ++ d2) j1 hrel' (belowAll_mono j3 _ d5) hmode
  have hrun : m ≠ .run := by
   rintro rfl
   cases u2 with
   | none => cases j6
   | some v => obtain ⟨y,h,-⟩ := j6; cases h
  refine ⟨hrun,.inr ⟨(fun h => by cases h),.func g,d2,g,d1 ++ d2,rfl,?_,fun _ _ => trivial,hcd.mono fun e m' w'' hq => ?_⟩⟩
  ·have := run_callFunc (w := w') hca (d1 ++ d2)
   simp [invoke]
   simpa using this
  ·obtain ⟨κ'',v,rfl,i1,i2,i3,i4⟩ := hq
   show LeavesInM (FW none) 0 P F tmps' R a1.defers (settle m') w''
   rw [k5]
   have hkk := (k2.trans j2 k3).trans i2 (Nat.le_trans k3 j3)
   refine hQ tmps' w'' κ'' (settle m') i1 hkk (by omega) (j4.mono i2.ext (by omega)) j5 ?_
   cases u3 with
   | none => rcases i4 with rfl | ⟨y,rfl⟩ <;> rfl
   | some v => obtain ⟨y,rfl,e1,e2⟩ := i4; exact ⟨y,rfl,e1,e2⟩
 | skip => exact fun c hc env env' u σ σ' κ a w hi he hs hr hQ => dflt .skip c (chkDC_dflt (by simp) (by simp) hc) hi he hs hr hQ
 | stuck => exact fun c hc env env' u σ σ' κ a w hi he hs hr hQ => dflt .stuck c (chkDC_dflt (by simp) (by simp) hc) hi he hs hr hQ
 | reg d xs keep => exact fun c hc env env' u σ σ' κ a w hi he hs hr hQ => dflt (.reg d xs keep) c (chkDC_dflt (by simp) (by simp) hc) hi he hs hr hQ
 | psa x l _ => exact fun c hc env env' u σ σ' κ a w hi he hs hr hQ => dflt (.psa x l) c (chkDC_dflt (by simp) (by simp) hc) hi he hs hr hQ
 | ps l x _ => exact fun c hc env env' u σ σ' κ a w hi he hs hr hQ => dflt (.ps l x) c (chkDC_dflt (by simp) (by simp) hc) hi he hs hr hQ
 | cond y x1 x2 _ _ => exact fun c hc env env' u σ σ' κ a w hi he hs hr hQ => dflt (.cond y x1 x2) c (chkDC_dflt (by simp) (by simp) hc) hi he hs hr hQ
 | block id x _ => exact fun c hc env env' u σ σ' κ a w hi he hs hr hQ => dflt (.block id x) c (chkDC_dflt (by simp) (by simp) hc) hi he hs hr hQ
 | loop x _ => exact fun c hc env env' u σ σ' κ a w hi he hs hr hQ => dflt (.loop x) c (chkDC_dflt (by simp) (by simp) hc) hi he hs hr hQ
 | cut x keep _ => exact fun c hc env env' u σ σ' κ a w hi he hs hr hQ => dflt (.cut x keep) c (chkDC_dflt (by simp) (by simp) hc) hi he hs hr hQ
 | rfunc f ps keep asg bd _ _ => exact fun c hc env env' u σ σ' κ a w hi he hs hr hQ => dflt (.rfunc f ps keep asg bd) c (chkDC_dflt (by simp) (by simp) hc) hi he hs hr hQ
 | exit id keep => exact fun c hc env env' u σ σ' κ a w hi he hs hr hQ => dflt (.exit id keep) c (chkDC_dflt (by simp) (by simp) hc) hi he hs hr hQ
 | ret keep => exact fun c hc env env' u σ σ' κ a w hi he hs hr hQ => dflt (.ret keep) c (chkDC_dflt (by simp) (by simp) hc) hi he hs hr hQ
def noGo (Q : Exit → Act → World → Prop) : Exit → Act → World → Prop
 | .goto _,_,_ => False
 | e,a,w => Q e a w
theorem stepR_scope {P : Program} {b : Frame} {a : Act} {k : List Item} {cs : List Frame} {w : World} {c : Code} : step P (lone (b.atR a (.code (.scope c) :: k)) cs w) = .next (lone (b.atR a (.code c :: .inScope c :: k)) cs w) :=
 step_lone_go (by simp [stepG,stepG.exec,Frame.atR])
theorem stepR_inScope {P : Program} {b : Frame} {a : Act} {k : List Item} {cs : List Frame} {w : World} {c : Code} : step P (lone (b.atR a (.inScope c :: k)) cs w) = .next (lone (b.atR a k) cs w) :=
 step_lone_go (by simp [stepG,stepG.exec,Frame.atR])
theorem wpIn_scope_straight {F : Fence} {n : Nat} {P : Program} {Q : Exit → Act → World → Prop} {a : Act} {w : World} {c : Code} (h : c.wpIn F n P (noGo Q) a w) : (Code.scope c).wpIn F n P Q a w := by
 intro b k cs hro hb hr
 have h0 : (lone (b.atR a (.code (.scope c) :: k)) cs w).fenced P F := fenced_calm hb hr rfl
 obtain ⟨e,a1,w1,hq,harr⟩ := h b (.inScope c :: k) cs hro hb hr
 have hx : ∀ id,exitTo id (.inScope c :: k) = exitTo id k := fun id => by simp [exitTo]
 cases e with
 | normal => exact ⟨.normal,a1,w1,hq,.head h0 stepR_scope (StepsIn.trans harr (.one (fenced_calm hb hr rfl) stepR_inScope))⟩
 | exit id => exact ⟨.exit id,a1,w1,hq,fun k' hk => .head h0 stepR_scope (harr.1 k' (by rw [hx]; exact hk)),
   fun hr' hk => let ⟨k1,h1,h2⟩ := harr.2 hr' (by rw [hx]; exact hk); ⟨k1,h1,.head h0 stepR_scope h2⟩⟩
 | goto l => exact hq.elim
 | ret => exact ⟨_,a1,w1,hq,.of_steps (.one h0 stepR_scope) harr⟩
 | panic ch => exact ⟨_,a1,w1,hq,.of_steps (.one h0 stepR_scope) harr⟩
 | outgrown => exact ⟨_,a1,w1,hq,.of_steps (.one h0 stepR_scope) harr⟩
theorem wpIn_unscope {F : Fence} {n : Nat} {P : Program} {Q : Exit → Act → World → Prop} {a : Act} {w : World} {c : Code} (h : (unscope c).wpIn F n P (noGo Q) a w) : c.wpIn F n P Q a w := by
 have hm : c.wpIn F n P (noGo Q) a w → c.wpIn F n P Q a w := fun h => wpIn_mono h fun e a w hq => by cases e <;> first | exact hq | exact hq.elim
 cases c <;> first | exact hm h | exact wpIn_scope_straight h
theorem body_sound (hK : ∀ ic c m,CodeRel.cd ic c m ↔ chkC P m ic c = true ∧ noRf ic = true) {T : FuncId → Option IF} (hT : ∀ f fn,T f = some fn → chkF P f fn = true) {H : Hook} (hH : HookOK P H) {calls : Sem'} (hcalls : CallsOK P calls) (n : Nat) : CallsOK P (body T H calls (fun s x => iter s n x)) := by
 intro bars f args σ r hr
 unfold body at hr
 split at hr
 ·rename_i hy
  refine ⟨fun h => absurd hy (Nat.not_le.2 h),fun κ w xs hi hrel hb => ⟨fun h => absurd hy (Nat.not_le.2 h),fun l hl => ?_⟩⟩
  subst hl
  rw [show YB + l - YB = l from Nat.add_sub_cancel_left YB l] at hr
  exact round_sound hK hcalls n hr hi hrel hb
 rename_i hy
 have hfy : f < YB := Nat.lt_of_not_le hy
 have hxx : ∀ {κ : Kn} {xs : Array Value} {w : World} {R : Ending → World → Prop},Calls P f xs w R → CallsX P κ f xs w R := fun h => ⟨fun _ => h,fun l hl => absurd (hl ▸ Nat.le_add_right YB l) hy⟩
 cases hHf : H f with
 | some hk =>
  rw [hHf] at hr
  obtain ⟨h1,h2⟩ := hH f hk hHf args σ r hr
  exact ⟨fun _ => h1,fun κ w xs hi hrel hb => hxx (h2 bars κ w xs hi hrel hb)⟩
 | none =>
 rw [hHf] at hr
 simp only at hr
 cases hfn : T f with
 | none => rw [hfn] at hr; cases hr
 | some fn =>
 rw [hfn] at hr
 simp only at hr
 have hchk := hT f fn hfn
 unfold chkF at hchk
 rw [Bool.and_eq_true] at hchk
 have hchk := hchk.2
 split at hchk
 case h_2 => cases hchk
 rename_i F hF
 split at hchk
 case h_2 => cases hchk
 rename_i c hbody
 simp only [Bool.and_eq_true,decide_eq_true_eq,Bool.not_eq_true'] at hchk
 obtain ⟨⟨⟨hnp,hname⟩,hres⟩,hcode⟩ := hchk
 split at hr
 case isFalse => cases hr
 rename_i hlen
 refine ⟨fun _ => ⟨F,hF,by rw [hbody]; rfl,hname⟩,fun κ w xs hi hrel hb => hxx ?_⟩
 have hxl : xs.size = fn.np := by rw [← hlen,← Array.length_toList]; exact hrel.length.symm
 have hbl : ∀ m ∈ bars,m ≤ σ.length := fun m hm => (hi.wfb m hm).1
 have htsz : (xs ++ Array.replicate (F.ntmps - xs.size) undef).size = F.ntmps := by simp; omega
 have henv : ENV κ σ.length (argEnv 0 args) (xs ++ Array.replicate (F.ntmps - xs.size) undef) := enter_env hrel hb hxl hnp
 by_cases hmode : fn.mode = 2
 ·rw [if_pos hmode] at hr hcode
  cases hx : evD T (evC calls (fun s x => iter s n x)) (σ.length :: bars) fn.body (argEnv 0 args) σ with
  | none => rw [hx] at hr; cases hr
  | some r1 =>
  rw [hx] at hr
  obtain ⟨u,env1,σ1⟩ := r1
  refine calls_FW (ro := none) (n := 0) (callsIn_of_wp_marks hF hbody trivial ?_)
  refine evD_sound (a := { tmps := xs ++ Array.replicate (F.ntmps - xs.size) undef,defers := [] }) hK hT hcalls n fn.body c hcode hi.bar henv htsz hx fun tmps' w' κ' m k1 k2 k3 k4 k5 k6 => ?_
  have hlen1 : (σ1.take σ.length).length = σ.length := by simp; omega
  cases u with
  | none =>
   simp only at k6
   subst k6
   simp only [finish,Option.bind_eq_some_iff,Option.some.injEq] at hr
   obtain ⟨vs,hvs,p,hp1,rfl⟩ := hr
   obtain ⟨x,h1,h2,h3⟩ := run_results (P := P) k1 k4 hres hvs
   refine ⟨x,h1,κ',?_⟩
   unfold leave at hp1
   rw [if_neg (by omega),if_neg (by omega),if_neg (by omega)] at hp1
   split at hp1
   ·rename_i hbn
    cases hp1
    exact ⟨k1.take hbl,k2.take,Nat.le_of_eq hlen1.symm,x,rfl,RelV.norm _ _ h2,by rw [hlen1]; exact hbn⟩
   ·cases hp1
  | some v =>
   obtain ⟨y,rfl,hv,hbv⟩ := k6
   simp only [finish] at hr
   split at hr
   ·rename_i hbn
    cases hr
    exact ⟨κ',k1.take hbl,k2.take,Nat.le_of_eq hlen1.symm,y,rfl,hv,by rw [hlen1]; exact hbn⟩
   ·cases hr
 rw [if_neg hmode] at hr hcode
 by_cases hm3 : fn.mode = 3
 ·rw [if_pos hm3] at hr; cases hr
 rw [if_neg hm3] at hr hcode
 have henv : ENV κ σ.length (argEnvM fn.mode args) (xs ++ Array.replicate (F.ntmps - xs.size) undef) := enter_envM hrel hb hxl hnp
 cases hx : evC calls (fun s x => iter s n x) (σ.length :: bars) fn.body (argEnvM fn.mode args) σ with
 | none => rw [hx] at hr; cases hr
 | some r1 =>
 rw [hx] at hr
 refine calls_FW (ro := none) (n := 0) (callsIn_of_wp_marks hF hbody trivial ?_)
 refine wpIn_unscope ?_
 refine evC_sound (ro := none) (nr := false) hK hcalls (.inl rfl) n fn.body (unscope c) hcode (fun h => by cases h) hi.bar henv htsz hx fun e a' w' κ' hp _ => ?_
 obtain ⟨e1,env1,σ1⟩ := r1
 obtain ⟨Ds,hdef,hmk⟩ := hp.defers
 simp only [List.append_nil] at hdef
 have hlen1 : (σ1.take σ.length).length = σ.length := by have := hp.len; simp at this ⊢; omega
 have ret : ENV κ' σ1.length env1 a'.tmps → ((ressE env1 σ1 fn.res).bind fun vs => (leave fn.mode σ.length (pack vs) σ1).bind fun p => some (Out.ret p.1,p.2)) = some r →
   LeavesInM (FW none) 0 P F a'.tmps (CallPost bars κ σ w r) a'.defers .returning w' := by
  intro he1 hr
  rw [hdef,← List.append_nil (Ds.map mark)]
  refine leaves_marks (κ0 := κ) (σ0 := σ) (n := σ.length) (w0 := w) (by simp) (fun w' hinv hkept => ?_) Ds w' hp.inv hp.kept hmk
  simp only [Option.bind_eq_some_iff,Option.some.injEq] at hr
  obtain ⟨vs,hvs,p,hp1,rfl⟩ := hr
  obtain ⟨x,h1,h2,h3⟩ := run_results (P := P) hinv he1 hres hvs
  refine ⟨x,h1,κ',?_⟩
  unfold leave at hp1
  split at hp1
  ·split at hp1
   ·rename_i hbn
    cases hp1
    exact ⟨hinv.take hbl,hkept.take,Nat.le_of_eq hlen1.symm,x,rfl,h2,by rw [hlen1]; exact hbn⟩
   ·cases hp1
  ·split at hp1
   ·cases hp1
    exact ⟨hinv.drop,hkept,hp.len,x,rfl,RelV.norm _ _ h2,below_norm _ h3⟩
   split at hp1
   ·cases hp1
    exact ⟨hinv.drop,hkept,hp.len,x,rfl,h2,h3⟩
   split at hp1
   ·rename_i hbn
    cases hp1
    exact ⟨hinv.take hbl,hkept.take,Nat.le_of_eq hlen1.symm,x,rfl,RelV.norm _ _ h2,by rw [hlen1]; exact hbn⟩
   ·cases hp1
 cases e1 with
 | norm =>
  obtain ⟨rfl,he1⟩ := hp.ex
  exact ret he1 hr
 | ret =>
  obtain ⟨rfl,he1⟩ := hp.ex
  exact ret he1 hr
 | exit id => cases hr
 | pan v =>
  obtain ⟨y,rfl,hv,hbv⟩ := hp.ex
  simp only at hr
  split at hr
  ·rename_i hbn
   cases hr
   show LeavesInM (FW none) 0 P F a'.tmps _ a'.defers (.panicking _) w'
   rw [hdef,← List.append_nil (Ds.map mark)]
   refine leaves_marks (κ0 := κ) (σ0 := σ) (n := σ.length) (w0 := w) (by simp) (fun w' hinv hkept => ?_) Ds w' hp.inv hp.kept hmk
   exact ⟨κ',hinv.take hbl,hkept.take,Nat.le_of_eq hlen1.symm,y,rfl,hv,by rw [hlen1]; exact hbn⟩
  ·cases hr
end
@[reducible] def CR (P : Program) : CodeRel := ⟨fun ic c m => chkC P m ic c = true ∧ noRf ic = true⟩
end Go.Ev
