/- Literals, and what 'make' makes. -/
import Derived.Test.YtcjblapcdbjoiaaGreatDoorEvB
import Derived.Great.BuildSlice
import Derived.Laws.MakeOwn
import Derived.MapKept
import Derived.Laws.StructEq
import Derived.Lib.AppendZeros
import Derived.RangeFuncRecord
import Derived.Test.YtcjblapcdbjoiaaGreatDoorEvA
import Derived.LoopNIn
import Derived.OrdersIn
set_option linter.unnecessarySimpa false
set_option linter.unusedVariables false
set_option linter.unusedSimpArgs false
set_option linter.unusedSectionVars false
namespace Go.Ev
variable [CodeRel]
theorem foldl_set (off : Nat) : ∀ (l : List Value) (k : Nat) (cs : Array Value),off + k + l.length ≤ cs.size →
  ((l.zipIdx k).foldl (fun cs (p : Value × Nat) => cs.setIfInBounds (off + p.2) p.1) cs).toList = cs.toList.take (off + k) ++ l ++ cs.toList.drop (off + k + l.length)
 | [],k,cs,h => by simp
 | x :: r,k,cs,h => by
  simp only [List.zipIdx_cons,List.foldl_cons,List.length_cons] at *
  rw [foldl_set off r (k + 1) _ (by simp; omega)]
  have hl : (off + k) < cs.toList.length := by simp; omega
  simp only [Array.toList_setIfInBounds]
  rw [show off + (k + 1) = off + k + 1 by omega,show off + k + 1 + r.length = off + k + (r.length + 1) by omega]
  rw [List.drop_set_of_lt (by omega)]
  rw [List.take_set]
  have : (cs.toList.take (off + k + 1)) = cs.toList.take (off + k) ++ [cs.toList[off + k]] := by
   rw [List.take_succ_eq_append_getElem hl]
  rw [this,List.set_append_right _ _ (by simp; omega)]
  have hm : off + k - (cs.toList.take (off + k)).length = 0 := by rw [List.length_take]; omega
  rw [hm]
  simp [List.append_assoc]
theorem fill_cons {place : Nat → Option (Nat × Nat)} {cells : Array Value} {i off size : Nat} {v : Value} {rest : List (Nat × Value)} (hp : place i = some (off,size)) (hs : v.cells.size = size) (hle : off + size ≤ cells.size) :
  Instr.fill place cells ((i,v) :: rest) = Instr.fill place (cells.toList.take off ++ v.cells.toList ++ cells.toList.drop (off + v.cells.size)).toArray rest := by
 rw [Instr.fill,hp]
 simp only
 rw [if_neg (by simp [hs]; omega)]
 congr 1
 apply Array.ext'
 have h := foldl_set off v.cells.toList 0 cells (by simp; omega)
 simp only [Nat.add_zero] at h
 rw [← Array.foldl_toList,Array.toList_zipIdx]
 simpa using h
theorem RelL.replicate {κ : Kn} {l : List PV} {x : List Value} (h : RelL κ l x) : ∀ n,RelL κ (List.replicate n l).flatten (List.replicate n x).flatten
 | 0 => by simp [RelL]
 | n + 1 => by simp only [List.replicate_succ,List.flatten_cons]; exact RelL.append h (RelL.replicate h n)
theorem made_flat (z : Array Value) : ∀ n,((Array.range (n * z.size)).map (z[· % z.size]!)).toList = (List.replicate n z.toList).flatten
 | 0 => by simp
 | n + 1 => by
  have ih := made_flat z n
  simp only [Array.toList_map,Array.toList_range] at ih ⊢
  rw [Nat.succ_mul,List.range_add,List.map_append,ih,List.replicate_succ',List.flatten_append]
  congr 1
  simp only [List.flatten_cons,List.flatten_nil,List.append_nil,List.map_map]
  apply List.ext_getElem (by simp)
  intro j h1 h2
  simp only [List.getElem_map,List.getElem_range,Function.comp]
  have hj : j < z.size := by simpa using h2
  rw [Nat.add_comm,Nat.add_mul_mod_self_right,Nat.mod_eq_of_lt hj,getElem!_pos z j hj]
  simp
def placesOf (P : Program) (t : TypeId) : Option (Array Value × (Nat → Option (Nat × Nat))) :=
 match P.info? t,P.underlying t with
 | some it,some (.array _ e) =>
  match it.zero,P.info? e with
  | some z,some ie => some (z.cells,fun i => some (i * ie.size,ie.size))
  | _,_ => none
 | some it,some (.struct fields) =>
  match it.zero,fields.toList.mapM (fun f => (P.info? f.type).map fun i => (f.offset,i.size)) with
  | some z,some places => some (z.cells,(places.toArray[·]?))
  | _,_ => none
 | _,_ => none
theorem built_of {P : Program} {t : TypeId} {z : Array Value} {pl : Nat → Option (Nat × Nat)} (h : placesOf P t = some (z,pl)) (parts : List (Nat × Value)) : P.built t parts = Instr.fill pl z parts := by
 unfold placesOf at h
 unfold Program.built
 cases h1 : P.info? t with
 | none => rw [h1] at h; cases h
 | some it =>
  cases h2 : P.underlying t with
  | none => rw [h1,h2] at h; cases h
  | some d =>
   rw [h1,h2] at h
   cases d <;> simp only [reduceCtorEq] at h
   ·split at h
    ·rename_i hz hie
     cases h
     simp only [hz,hie]
    ·cases h
   ·split at h
    ·rename_i hz hie
     cases h
     simp only [hz,hie]
    ·cases h
def chkParts (pl : Nat → Option (Nat × Nat)) : List (Nat × Nat × Opd) → List (Nat × Operand) → Bool
 | [],[] => true
 | (off,sz,x) :: r,(i,y) :: s => (match pl i with | some (o,n) => o == off && n == sz | none => false) && chkO x y && chkParts pl r s
 | _,_ => false
section
variable {P : Program} {bars : List Nat} {κ : Kn} {σ : Sto} {w : World} {env : Env} {a : Act} {o : Oper} {r : OpR}
theorem fill_sound (he : ENV κ σ.length env a.tmps) {pl : Nat → Option (Nat × Nat)} : ∀ {parts : List (Nat × Nat × Opd)} {parts' : List (Nat × Operand)} {ps : List (Nat × Nat × PV)} {acc cs : List PV} {cells : Array Value},
  chkParts pl parts parts' = true → evq env parts = some ps → fillP acc ps = some cs → RelL κ acc cells.toList → (∀ v ∈ cells.toList,v.oneCell' = true) → below.belowAll σ.length acc = true →
  ∃ cells',Instr.fill pl cells (parts'.map fun p => (p.1,a.eval p.2)) = some cells' ∧ RelL κ cs cells'.toList ∧ (∀ v ∈ cells'.toList,v.oneCell' = true) ∧ below.belowAll σ.length cs = true
 | [],[],ps,acc,cs,cells,_,hq,hf,h1,h2,h3 => by
  simp only [evq,Option.some.injEq] at hq; subst hq
  simp only [fillP,Option.some.injEq] at hf; subst hf
  exact ⟨cells,rfl,h1,h2,h3⟩
 | [],_ :: _,_,_,_,_,hc,_,_,_,_,_ => by simp [chkParts] at hc
 | _ :: _,[],_,_,_,_,hc,_,_,_,_,_ => by simp [chkParts] at hc
 | (off,sz,x) :: r,(i,y) :: s,ps,acc,cs,cells,hc,hq,hf,h1,h2,h3 => by
  simp only [chkParts,Bool.and_eq_true] at hc
  obtain ⟨⟨hp,hx⟩,hcs⟩ := hc
  simp only [evq,Option.bind_eq_some_iff,Option.some.injEq] at hq
  obtain ⟨v,hv,vs,hvs,rfl⟩ := hq
  simp only [fillP] at hf
  split at hf
  ·rename_i hlen
   simp only [Option.bind_eq_some_iff] at hf
   obtain ⟨acc',hput,hf⟩ := hf
   obtain ⟨hle,rfl⟩ := putAt_some hput
   obtain ⟨h4,h5⟩ := chkO_spec he hx hv
   have hnr := RelV.norm v _ h4
   have hnok := norm_okc hlen.2
   obtain ⟨h6,h7⟩ := hnr.cells hnok
   have hns := cells_size hnr hnok
   have hos := cells_size h4 hlen.2
   have hal := h1.length
   simp only [Array.length_toList] at hal
   have hpl : pl i = some (off,sz) := by
    split at hp
    ·simp only [Bool.and_eq_true,beq_iff_eq] at hp
     obtain ⟨rfl,rfl⟩ := hp; assumption
    ·cases hp
   rw [List.map_cons,fill_cons (v := a.eval y) hpl (by omega) (by omega)]
   refine fill_sound he hcs hvs hf ?_ ?_ ?_
   ·have := RelL.put (off := off) h1 h6
    simpa using this
   ·intro u hu
    simp only [List.mem_append] at hu
    rcases hu with (hu | hu) | hu
    ·exact h2 u (List.mem_of_mem_take hu)
    ·exact h7 u hu
    ·exact h2 u (List.mem_of_mem_drop hu)
   ·simp only [belowAll_append,Bool.and_eq_true]
    exact ⟨⟨belowAll_of fun p hp => belowAll_mem h3 (List.mem_of_mem_take hp),below_cells' (below_norm v h5)⟩,belowAll_of fun p hp => belowAll_mem h3 (List.mem_of_mem_drop hp)⟩
  ·cases hf
theorem sound_build (hi : INV bars κ σ w) (he : ENV κ σ.length env a.tmps) {zero : List PV} {parts : List (Nat × Nat × Opd)} {parts' : Array (Nat × Operand)} {t : TypeId} {z : Array Value} {pl : Nat → Option (Nat × Nat)} (hpl : placesOf P t = some (z,pl)) (hc : chkParts pl parts parts'.toList = true)
  (hz : eqCs zero z.toList = true) (h1 : z.toList.all Value.oneCell' = true) (ho : o.op = .build t parts') (hr : opE bars env σ (.build zero parts) = some r) : OpOK bars κ σ w ((execOp a.eval o).run P w) r := by
 simp only [opE,Option.bind_eq_some_iff,Option.some.injEq] at hr
 obtain ⟨ps,hps,cs,hcs,rfl⟩ := hr
 obtain ⟨h2,h3⟩ := eqCs_spec κ σ.length zero _ hz
 obtain ⟨cells',h4,h5,h6,h7⟩ := fill_sound he hc hps hcs h2 (List.all_eq_true.1 h1) h3
 have hrun := run_build (P := P) w t (parts'.map fun p => (p.1,a.eval p.2)) cells' (by rw [built_of hpl,Array.toList_map]; exact h4)
 exact opOK_val hi (x := .agg cells') (by simp [execOp,ho,hrun]) ⟨_,rfl,h5,h6⟩ (by simpa [below] using h7)
def chkParts2 : List (Nat × Opd) → List (Nat × Operand) → Bool
 | [],[] => true
 | (j,x) :: r,(i,y) :: s => j == i && chkO x y && chkParts2 r s
 | _,_ => false
theorem bsl_sound (he : ENV κ σ.length env a.tmps) {esz : Nat} : ∀ {parts : List (Nat × Opd)} {parts' : List (Nat × Operand)} {ps : List (Nat × PV)} {acc es : List (List PV)} {cells : Array Value},
  chkParts2 parts parts' = true → evp env parts = some ps → bslE esz acc ps = some es → (∀ e ∈ acc,e.length = esz) → RelL κ acc.flatten cells.toList → (∀ v ∈ cells.toList,v.oneCell' = true) → below.belowEs 0 acc = true →
  ∃ cells',Instr.fill (fun i => some (i * esz,esz)) cells (parts'.map fun p => (p.1,a.eval p.2)) = some cells' ∧ RelL κ es.flatten cells'.toList ∧ (∀ v ∈ cells'.toList,v.oneCell' = true) ∧ below.belowEs 0 es = true ∧ (∀ e ∈ es,e.length = esz) ∧ es.length = acc.length
 | [],[],ps,acc,es,cells,_,hq,hf,hk,h1,h2,h3 => by
  simp only [evp,Option.some.injEq] at hq; subst hq
  simp only [bslE,Option.some.injEq] at hf; subst hf
  exact ⟨cells,rfl,h1,h2,h3,hk,rfl⟩
 | [],_ :: _,_,_,_,_,hc,_,_,_,_,_,_ => by simp [chkParts2] at hc
 | _ :: _,[],_,_,_,_,hc,_,_,_,_,_,_ => by simp [chkParts2] at hc
 | (j,x) :: r,(i,y) :: s,ps,acc,es,cells,hc,hq,hf,hk,h1,h2,h3 => by
  simp only [chkParts2,Bool.and_eq_true,beq_iff_eq] at hc
  obtain ⟨⟨rfl,hx⟩,hcs⟩ := hc
  simp only [evp,Option.bind_eq_some_iff,Option.some.injEq] at hq
  obtain ⟨v,hv,vs,hvs,rfl⟩ := hq
  simp only [bslE] at hf
  split at hf
  ·rename_i hlen
   obtain ⟨hj,hlen,hok,hb0⟩ := hlen
   obtain ⟨h4,h5⟩ := chkO_spec he hx hv
   have hnr := RelV.norm v _ h4
   have hnok := norm_okc hok
   obtain ⟨h6,h7⟩ := hnr.cells hnok
   have hns := cells_size hnr hnok
   have hos := cells_size h4 hok
   have hal := h1.length
   rw [flat_len hk] at hal
   simp only [Array.length_toList] at hal
   have hmul : (j + 1) * esz ≤ acc.length * esz := Nat.mul_le_mul_right _ hj
   rw [Nat.succ_mul] at hmul
   rw [List.map_cons,fill_cons (v := a.eval y) (off := j * esz) (size := esz) rfl (by omega) (by omega)]
   have hge : acc[j]? = some acc[j] := List.getElem?_eq_getElem hj
   have hel : (acc[j]).length = esz := hk _ (List.getElem_mem hj)
   have hset := flat_set (es := acc) (j := j) (e := acc[j]) (e' := Ev.cells (Ev.norm v)) hk hge (off := 0) (xs := Ev.cells (Ev.norm v)) (by omega) (by
    have : (acc[j]).drop (0 + (Ev.cells (Ev.norm v)).length) = [] := List.drop_eq_nil_of_le (by omega)
    rw [this]; simp)
   simp only [Nat.add_zero] at hset
   obtain ⟨cells',g1,g2,g3,g4,g5,g6⟩ := bsl_sound he hcs hvs hf (cells := (cells.toList.take (j * esz) ++ (a.eval y).cells.toList ++ cells.toList.drop (j * esz + (a.eval y).cells.size)).toArray) (fun e he => by
     rcases List.mem_or_eq_of_mem_set he with h | h
     ·exact hk e h
     ·subst h; omega)
    (by rw [hset]; simpa using RelL.put (off := j * esz) h1 h6)
    (fun u hu => by
     simp only [List.mem_append] at hu
     rcases hu with (hu | hu) | hu
     ·exact h2 u (List.mem_of_mem_take hu)
     ·exact h7 u hu
     ·exact h2 u (List.mem_of_mem_drop hu))
    (belowEs_of fun e he => by
     rcases List.mem_or_eq_of_mem_set he with h | h
     ·exact belowEs_mem h3 h
     ·subst h; exact below_cells' hb0)
   exact ⟨cells',g1,g2,g3,g4,g5,by rw [g6,List.length_set]⟩
  ·cases hf
theorem INV.know (hi : INV bars κ σ w) {w' : World} {row : Array Value} {T : TypeId} (hw : w'.heap = w.heap.push (.cells row T)) (h1 : w'.os = w.os) (h2 : w'.output = w.output) (h3 : w'.tape = w.tape) :
  INV bars (κ.know w.heap.size row.toList) σ w' ∧ Kept σ.length κ σ w (κ.know w.heap.size row.toList) σ w' ∧ Ext σ.length κ (κ.know w.heap.size row.toList) := by
 have hfresh : ∀ o,κ.M w.heap.size o = none := hi.M_fresh (Nat.le_refl _)
 have hext : Ext σ.length κ (κ.know w.heap.size row.toList) := by
  refine ⟨fun _ _ _ => rfl,fun _ _ => rfl,fun _ _ => Nat.le_refl _,fun _ _ _ => rfl,fun b o v hm => ?_,fun _ => Nat.le_refl _⟩
  simp only [Kn.know]
  rw [if_neg (by rintro rfl; rw [hfresh] at hm; cases hm)]
  exact hm
 obtain ⟨h5,h6⟩ := INV.more (w' := w') (κ' := κ.know w.heap.size row.toList) hi hext (fun _ _ => rfl) (by simp [hw]) (fun b hb => by rw [hw]; exact heap_push_lt hb)
  (fun b hb o => by simp only [Kn.know]; rw [if_neg (by omega)]) (fun b o v hm => by
   simp only [Kn.know] at hm
   split at hm
   ·rename_i hb; subst hb
    have : w'.heap[w.heap.size]? = some (.cells row T (0,0)) := by simp [hw]
    rw [cell_of_row this]; simpa using hm
   ·have hlt := cell_lt (hi.mem b o v hm)
    have := hi.mem b o v hm
    simp only [World.cell?,hw,heap_push_lt hlt] at this ⊢
    exact this) (fun b hb => by
   obtain ⟨c,T,fr,h,hsz⟩ := hi.cap b hb
   exact ⟨c,T,fr,by rw [hw,heap_push_lt (Array.getElem?_eq_some_iff.1 h).1]; exact h,hsz⟩) h1 h2 h3
 exact ⟨h5,h6,hext⟩
theorem sound_bslice (hi : INV bars κ σ w) (he : ENV κ σ.length env a.tmps) {esz len : Nat} {zero : List PV} {parts : List (Nat × Opd)} {parts' : Array (Nat × Operand)} {t elem : TypeId} {i : TypeInfo} {z : Value} (hc : chkParts2 parts parts'.toList = true)
  (ht : P.underlying t = some (.slice elem)) (hei : P.info? elem = some i) (hs : i.size = esz) (hz : i.zero = some z) (hzs : z.cells.size = esz) (hzz : eqCs zero z.cells.toList = true) (h1 : z.cells.toList.all Value.oneCell' = true) (hsmall : len * esz ≤ 2 ^ 24) (hpos : 0 < esz) (hlen : len = 0 → parts = [])
  (ho : o.op = .buildSlice t len parts') (hr : opE bars env σ (.bslice esz len zero parts) = some r) : OpOK bars κ σ w ((execOp a.eval o).run P w) r := by
 simp only [opE,Option.bind_eq_some_iff] at hr
 obtain ⟨ps,hps,hr⟩ := hr
 split at hr
 ·rename_i hzl
  simp only [Option.bind_eq_some_iff,Option.some.injEq] at hr
  obtain ⟨es,hes,rfl⟩ := hr
  obtain ⟨h2,h3⟩ := eqCs_spec κ 0 zero _ hzz
  subst hs
  have hmade := made_flat z.cells len
  rw [hzs] at hmade
  obtain ⟨cells',g1,g2,g3,g4,g5,g6⟩ := bsl_sound he (cells := (Array.range (len * i.size)).map (z.cells[· % z.cells.size]!)) hc hps hes (fun e he => by rw [List.eq_of_mem_replicate he]; exact hzl)
   (by rw [hzs,hmade]; exact RelL.replicate h2 len) (fun v hv => by
    rw [hzs,hmade] at hv
    obtain ⟨l,hl,hv⟩ := List.mem_flatten.1 hv
    rw [List.eq_of_mem_replicate hl] at hv
    exact List.all_eq_true.1 h1 v hv) (belowEs_of fun e he => by rw [List.eq_of_mem_replicate he]; exact h3)
  simp only [List.length_replicate] at g6
  have hrun : (Instr.buildSlice t len (parts'.map fun p => (p.1,a.eval p.2))).run P w = .ok (.slice (some ⟨w.heap.size,0,none⟩) len len) (w.alloc (.cells cells' elem)) := by
   by_cases h0 : len = 0
   ·subst h0
    have hp0 := hlen rfl
    subst hp0
    have : parts' = #[] := by
     cases hpl : parts'.toList with
     | nil => exact Array.toList_eq_nil_iff.1 hpl
     | cons x r => rw [hpl] at hc; obtain ⟨i,y⟩ := x; simp [chkParts2] at hc
    subst this
    have hc0 : cells' = #[] := by
     have : es = [] := List.eq_nil_of_length_eq_zero g6
     subst this
     simp only [List.flatten_nil,RelL] at g2
     exact Array.toList_eq_nil_iff.1 g2
    subst hc0
    simp [Instr.buildSlice,run_underlying ht,sizeOf,typeInfo,hei,Instr.fill,newRow,Array.range_zero']
   ·exact run_buildSlice w t elem len _ cells' i z ht hei hz (by omega) (by have := Nat.mul_pos (Nat.pos_of_ne_zero h0) hpos; omega) (by rw [Array.toList_map]; exact g1)
  obtain ⟨h5,h6,h7⟩ := INV.know (w' := w.alloc (.cells cells' elem)) hi rfl rfl rfl rfl
  refine ⟨_,_,.slice (some ⟨w.heap.size,0,none⟩) len len,.inl (by simp [execOp,ho,hrun]),⟨_,_,i.size,by rw [g6],by rw [g6]; exact Nat.le_refl _,fun _ => g6.symm,fun _ => ⟨_,_,rfl,?_⟩⟩,by simp only [below]; exact belowEs_mono (Nat.zero_le _) _ g4,h5,h6,Nat.le_refl _⟩
  exact grown_rel (all := cells'.toList) g5 g2 g3 (belowEs_mono (Nat.zero_le _) _ g4) h7 fun o => by simp [Kn.know]
 ·cases hr
end
end Go.Ev


namespace Go.Ev
variable [CodeRel]
open Go.MapKept
theorem alloc_new (w : World) (o : Obj) : (w.alloc o).heap[w.heap.size]? = some o := by show (w.heap.push o)[_]? = _; simp
section
variable {P : Program} {bars : List Nat} {κ : Kn} {σ : Sto} {w : World} {env : Env} {a : Act} {o : Oper} {r : OpR}
theorem INV.push_ob (hi : INV bars κ σ w) {w' : World} {obj : Obj} {ob : Ob} {κ' : Kn} (hw : w'.heap = w.heap.push obj) (h1 : w'.os = w.os) (h2 : w'.output = w.output) (h3 : w'.tape = w.tape)
  (he : Ext σ.length κ κ') (hgen : ∀ j,j < σ.length → κ'.gen j = κ.gen j) (hM : κ'.M = κ.M) (hcap : ∀ b,0 < κ'.cap b → 0 < κ.cap b ∧ κ'.cap b = κ.cap b ∨ b = w.heap.size ∧ ∃ c T fr,obj = .cells c T fr ∧ κ'.cap b ≤ c.size)
  (hob : obRel κ' w' σ.length ob) (hblk : ∀ b,blkOf κ' σ.length ob = some b → b = w.heap.size) (hwf : obBelow (σ.length + 1) ob = true) :
  INV bars κ' (σ ++ [ob]) w' ∧ Kept σ.length κ σ w κ' (σ ++ [ob]) w' := by
 have hget : (σ ++ [ob])[σ.length]? = some ob := by simp
 refine INV.one hi σ.length ob (Nat.le_refl _) (by simp) hget (fun j hj => ?_) he (fun j hj _ => hgen j hj) (by simp [hw]) (fun b hb _ => by rw [hw]; exact heap_push_lt hb) (fun b _ _ o => by rw [hM]) hob
  (fun b hb => .inr (by rw [hblk b hb]; exact Nat.le_refl _)) (fun b o v hm => ?_) (fun b hb => ?_) (by simpa using hwf) (fun n hn hlt => by have := (hi.wfb n hn).1; omega) h1 h2 h3
 ·rcases Nat.lt_or_ge j σ.length with h | h
  ·rw [List.getElem?_append_left h]
  ·rw [List.getElem?_eq_none (by simp; omega),List.getElem?_eq_none h]
 ·rw [hM] at hm
  have hlt := cell_lt (hi.mem b o v hm)
  have := hi.mem b o v hm
  simp only [World.cell?,hw,heap_push_lt hlt] at this ⊢
  exact this
 ·rcases hcap b hb with ⟨h4,h5⟩ | ⟨rfl,c,T,fr,rfl,h4⟩
  ·obtain ⟨c,T,fr,h,hsz⟩ := hi.cap b h4
   exact ⟨c,T,fr,by rw [hw,heap_push_lt (Array.getElem?_eq_some_iff.1 h).1]; exact h,by omega⟩
  ·exact ⟨c,T,fr,by simp [hw],h4⟩
theorem INV.cap_fresh (hi : INV bars κ σ w) : κ.cap w.heap.size = 0 := by
 rcases Nat.eq_zero_or_pos (κ.cap w.heap.size) with h | h
 ·exact h
 ·obtain ⟨d,T',fr,hd,-⟩ := hi.cap _ h
  have := (Array.getElem?_eq_some_iff.1 hd).1
  omega
theorem sound_mslice (hi : INV bars κ σ w) (he : ENV κ σ.length env a.tmps) {esz : Nat} {zero : List PV} {l : Opd} {l' c' : Operand} {t elem : TypeId} {i : TypeInfo} {z : Value} (hl : chkO l l' = true) (hc : chkO l c' = true)
  (ht : P.underlying t = some (.slice elem)) (hei : P.info? elem = some i) (hs : i.size = esz) (hz : i.zero = some z) (hzs : z.cells.size = esz) (hzz : eqCs zero z.cells.toList = true) (h1 : z.cells.toList.all Value.oneCell' = true) (hby : i.bytes ≤ 32768) (hpos : 0 < esz)
  (ho : o.op = .makeSlice t l' c') (hr : opE bars env σ (.mslice esz zero l) = some r) : OpOK bars κ σ w ((execOp a.eval o).run P w) r := by
 simp only [opE] at hr
 split at hr
 ·rename_i n hv
  split at hr
  ·rename_i hn
   obtain ⟨hn0,hnl,hzl⟩ := hn
   cases hr
   obtain ⟨h2,-⟩ := chkO_spec he hl hv
   obtain ⟨h3,-⟩ := chkO_spec he hc hv
   simp only [RelV] at h2 h3
   obtain ⟨h4,h5⟩ := eqCs_spec κ 0 zero _ hzz
   subst hs
   obtain ⟨m,rfl⟩ : ∃ m : Nat,n = m := ⟨n.toNat,by omega⟩
   have hml : m ≤ LIM := by omega
   have hb := fits hml hby
   have hrun := run_make (P := P) w t elem i z ht hei hz .i64 .i64 m m (by omega) (by omega) (by rw [Int.mul_comm]; omega) (by unfold LIM at hml; omega)
   have hmade := made_flat z.cells m
   simp only [Int.toNat_natCast] at hrun
   have hmd : (madeCells z.cells (m * i.size)).toList = (List.replicate m z.cells.toList).flatten := by unfold madeCells; rw [← hzs]; exact hmade
   have hcf := hi.cap_fresh
   let κ' : Kn := { κ with ρ := fun j => if j = σ.length then (w.heap.size,0) else κ.ρ j,gen := fun j => if j = σ.length then 0 else κ.gen j,esz := fun j => if j = σ.length then i.size else κ.esz j,cap := fun b => if b = w.heap.size then m * i.size else κ.cap b }
   have hext : Ext σ.length κ κ' := by
    refine ⟨fun j hj _ => ?_,fun j hj => ?_,fun j hj => ?_,fun _ _ _ => rfl,fun _ _ _ h => h,fun b => ?_⟩
    ·simp only [κ']; rw [if_neg (by omega)]
    ·simp only [κ']; rw [if_neg (by omega)]
    ·simp only [κ']; rw [if_neg (by omega)]; exact Nat.le_refl _
    ·simp only [κ']; split
     ·rename_i h; subst h; omega
     ·exact Nat.le_refl _
   obtain ⟨h6,h7⟩ := INV.push_ob (w' := w.alloc (.cells (madeCells z.cells (m * i.size)) elem)) (ob := .arr 0 i.size (List.replicate m zero)) (κ' := κ') hi rfl rfl rfl rfl hext (fun j hj => by simp only [κ']; rw [if_neg (by omega)]) rfl
    (fun b hb => by
     simp only [κ'] at hb ⊢
     split at hb
     ·rename_i h; subst h
      exact .inr ⟨rfl,_,_,_,rfl,by simp [size_madeCells]⟩
     ·rename_i h; rw [if_neg h]; exact .inl ⟨hb,rfl⟩)
    (by
     refine ⟨by simp [κ'],by simp [κ'],⟨madeCells z.cells (m * i.size),elem,by simp only [κ',if_true]; exact alloc_new _ _,fun e he => by rw [List.eq_of_mem_replicate he]; exact hzl,fun v hv => ?_,[],[],(List.replicate m z.cells.toList).flatten,by simpa using hmd,by simp [κ'],?_⟩,fun o _ => ?_⟩
     ·rw [hmd] at hv
      obtain ⟨l,hl,hv⟩ := List.mem_flatten.1 hv
      rw [List.eq_of_mem_replicate hl] at hv
      exact List.all_eq_true.1 h1 v hv
     ·exact RelL.replicate (RelL.mono hext _ _ (belowAll_mono (Nat.zero_le _) _ h5) h4) m
     ·simp only [κ',if_true]; exact hi.M_fresh (Nat.le_refl _) o)
    (fun b hb => by simp only [blkOf,κ',if_true,Option.some.injEq] at hb; exact hb.symm)
    (by simp only [obBelow]; exact belowEs_of fun e he => by rw [List.eq_of_mem_replicate he]; exact h5)
   refine ⟨_,_,.slice (some ⟨w.heap.size,0,none⟩) m m,.inl ?_,⟨by simp [κ'],_,_,rfl,by simp,fun _ hm => ?_⟩,by simp [below],h6,h7,by simp⟩
   ·simp [execOp,ho,h2,h3,hrun]
   ·simp [κ']
  ·cases hr
 ·cases hr
theorem sound_mmap (hi : INV bars κ σ w) {t : TypeId} (ho : o.op = .makeMap t none) (hr : opE bars env σ .mmap = some r) : OpOK bars κ σ w ((execOp a.eval o).run P w) r := by
 simp only [opE,Option.some.injEq] at hr
 subst hr
 obtain ⟨h6,h7⟩ := INV.push_ob (w' := w.alloc (.map #[] 0)) (ob := .mp []) (κ' := κ.at σ.length w.heap.size) hi rfl rfl rfl rfl (Ext.at _ _ _) (fun j hj => by simp [Kn.at,Nat.ne_of_lt hj]) rfl (fun b hb => .inl ⟨hb,rfl⟩)
  ⟨by simp [Kn.at],#[],0,by simp only [Kn.at,if_true]; exact alloc_new _ _,by simp [RelEnts],by simp [Born]⟩ (fun b hb => by simp [blkOf,Kn.at] at hb; exact hb.symm) rfl
 refine ⟨_,_,.map (some w.heap.size),.inl ?_,⟨_,rfl,by simp [Kn.at],fun _ => ?_⟩,by simp [below],h6,h7,by simp⟩
 ·simp [execOp,ho,Instr.makeMap,Result.andThen]
 ·simp [Kn.at]
def keyKind (str : Bool) (d : TypeDesc) : Prop := if str then d = .string else ∃ k,d = .int k
theorem keyEq_now {str : Bool} {d : TypeDesc} {x y : Value} {b : Bool} (hd : keyKind str d) (h : keyEq str x y = some b) : Instr.sameNow d y x = some b ∧ (b = true → x = y) ∧ (∀ n,Instr.sameBits n y y = true) := by
 unfold keyEq at h
 split at h
 ·rename_i j m k n
  split at h
  ·rename_i hk
   obtain ⟨rfl,rfl⟩ := hk
   simp only [keyKind,Bool.false_eq_true,if_false] at hd
   obtain ⟨kk,rfl⟩ := hd
   simp only [Option.some.injEq] at h
   subst h
   refine ⟨?_,?_,?_⟩
   ·simp only [Instr.sameNow,if_true,Option.some.injEq]
    rw [int_beq_decide,Bool.eq_iff_iff]; simp [eq_comm]
   ·simp
   ·intro n; cases n <;> simp [Instr.sameBits]
  ·cases h
 ·rename_i m n
  split at h
  ·rename_i hk
   subst hk
   simp only [keyKind,if_true] at hd
   subst hd
   simp only [Option.some.injEq] at h
   subst h
   refine ⟨?_,?_,?_⟩
   ·simp only [Instr.sameNow,Option.some.injEq]
    rw [Bool.eq_iff_iff,bytes_beq]; simp [eq_comm]
   ·simp
   ·intro n; cases n <;> simp [Instr.sameBits,bytes_beq]
  ·cases h
 ·cases h
theorem checkKey_now {str : Bool} {d : TypeDesc} {kt : TypeId} {y : Value} (hk : P.underlying kt = some d) (hd : keyKind str d) (em : Bool) (n : Nat) : (Instr.checkKey em (n + 1) kt y).run P w = .ok () w := by
 unfold Instr.checkKey
 simp only [Sem.run_bind,run_underlying hk,Result.andThen]
 unfold keyKind at hd
 split at hd
 ·subst hd; simp
 ·obtain ⟨k,rfl⟩ := hd; simp
theorem mget_now {str : Bool} {d : TypeDesc} (hd : keyKind str d) {key : Value} : ∀ {m : List (Value × PV)} {l : List MapEntry} {x : Option PV} (i : Nat),RelEnts κ m l → mget str m key = some x →
  (x = none ∧ Instr.findNow d key l i = some none) ∨ ∃ v u j,x = some v ∧ Instr.findNow d key l i = some (some (i + j,u)) ∧ RelV κ v u
 | [],l,x,i,hr,h => by
  simp only [RelEnts] at hr; subst hr
  simp only [mget,Option.some.injEq] at h
  exact .inl ⟨h.symm,rfl⟩
 | (k,v) :: m,l,x,i,hr,h => by
  simp only [RelEnts] at hr
  obtain ⟨e,l',rfl,hk,hv,hr⟩ := hr
  simp only [mget] at h
  split at h
  ·rename_i hq
   cases h
   obtain ⟨h1,h2,-⟩ := keyEq_now hd hq
   refine .inr ⟨v,e.val,0,rfl,?_,hv⟩
   simp only [Instr.findNow,hk,h1]; rfl
  ·rename_i hq
   obtain ⟨h1,-,-⟩ := keyEq_now hd hq
   rcases mget_now hd (i + 1) hr h with ⟨h3,h4⟩ | ⟨v',u,j,h3,h4,h5⟩
   ·exact .inl ⟨h3,by simp only [Instr.findNow,hk,h1]; exact h4⟩
   ·exact .inr ⟨v',u,j + 1,h3,by simp only [Instr.findNow,hk,h1]; rw [h4,show i + 1 + j = i + (j + 1) by omega],h5⟩
  ·cases h
theorem mput_now {str : Bool} {d : TypeDesc} (hd : keyKind str d) {key : Value} {pv : PV} {val : Value} (hval : RelV κ pv val) : ∀ {m : List (Value × PV)} {l : List MapEntry} {m' : List (Value × PV)} (i : Nat),RelEnts κ m l → mput str m key pv = some m' →
  (∀ n,Instr.sameBits n key key = true) ∧ ((Instr.findNow d key l i = some none ∧ ∀ b,RelEnts κ m' (l ++ [{ key,val,born := b }])) ∨ ∃ u j e,Instr.findNow d key l i = some (some (i + j,u)) ∧ l[j]? = some e ∧ e.key = key ∧ RelEnts κ m' (l.set j { e with key := key,val := val }))
 | [],l,m',i,hr,h => by
  simp only [RelEnts] at hr; subst hr
  simp only [mput] at h
  split at h
  ·rename_i b hq
   cases h
   obtain ⟨-,-,h3⟩ := keyEq_now hd hq
   exact ⟨h3,.inl ⟨rfl,fun b => ⟨_,[],rfl,rfl,hval,rfl⟩⟩⟩
  ·cases h
 | (k,v) :: m,l,m',i,hr,h => by
  simp only [RelEnts] at hr
  obtain ⟨e,l',rfl,hk,hv,hr⟩ := hr
  simp only [mput] at h
  split at h
  ·rename_i hq
   cases h
   obtain ⟨h1,h2,h3⟩ := keyEq_now hd hq
   refine ⟨h3,.inr ⟨e.val,0,e,?_,rfl,by rw [hk]; exact h2 rfl,?_⟩⟩
   ·simp only [Instr.findNow,hk,h1]; rfl
   ·exact ⟨_,l',rfl,by rw [h2 rfl],hval,hr⟩
  ·rename_i hq
   simp only [Option.bind_eq_some_iff,Option.some.injEq] at h
   obtain ⟨r',h4,rfl⟩ := h
   obtain ⟨h1,-,h3⟩ := keyEq_now hd hq
   refine ⟨h3,?_⟩
   obtain ⟨-,h5⟩ := mput_now hd hval (i + 1) hr h4
   rcases h5 with ⟨h6,h7⟩ | ⟨u,j,e',h6,h7,h8,h9⟩
   ·refine .inl ⟨by simp only [Instr.findNow,hk,h1]; exact h6,fun b => ⟨e,_,rfl,hk,hv,h7 b⟩⟩
   ·refine .inr ⟨u,j + 1,e',by simp only [Instr.findNow,hk,h1]; rw [h6,show i + 1 + j = i + (j + 1) by omega],by simpa using h7,h8,⟨e,_,rfl,hk,hv,h9⟩⟩
  ·cases h
theorem mdel_now {str : Bool} {d : TypeDesc} (hd : keyKind str d) {key : Value} : ∀ {m : List (Value × PV)} {l : List MapEntry} {m' : List (Value × PV)} (i : Nat),RelEnts κ m l → mdel str m key = some m' →
  (Instr.findNow d key l i = some none ∧ RelEnts κ m' l) ∨ ∃ u j,Instr.findNow d key l i = some (some (i + j,u)) ∧ j < l.length ∧ RelEnts κ m' (l.eraseIdx j)
 | [],l,m',i,hr,h => by
  simp only [RelEnts] at hr; subst hr
  simp only [mdel,Option.some.injEq] at h
  subst h
  exact .inl ⟨rfl,rfl⟩
 | (k,v) :: m,l,m',i,hr,h => by
  simp only [RelEnts] at hr
  obtain ⟨e,l',rfl,hk,hv,hr⟩ := hr
  simp only [mdel] at h
  split at h
  ·rename_i hq
   cases h
   obtain ⟨h1,h2,h3⟩ := keyEq_now hd hq
   refine .inr ⟨e.val,0,?_,by simp,by simpa using hr⟩
   simp only [Instr.findNow,hk,h1]; rfl
  ·rename_i hq
   simp only [Option.bind_eq_some_iff,Option.some.injEq] at h
   obtain ⟨r',h4,rfl⟩ := h
   obtain ⟨h1,-,h3⟩ := keyEq_now hd hq
   rcases mdel_now hd (i + 1) hr h4 with ⟨h6,h7⟩ | ⟨u,j,h6,h7,h8⟩
   ·exact .inl ⟨by simp only [Instr.findNow,hk,h1]; exact h6,⟨e,_,rfl,hk,hv,h7⟩⟩
   ·exact .inr ⟨u,j + 1,by simp only [Instr.findNow,hk,h1]; rw [h6,show i + 1 + j = i + (j + 1) by omega],by simp; omega,⟨e,_,rfl,hk,hv,h8⟩⟩
  ·cases h
theorem mget_below {str : Bool} {n : Nat} {key : Value} {v : PV} : ∀ {m : List (Value × PV)},(m.all fun p => below n p.2) = true → mget str m key = some (some v) → below n v = true
 | [],_,h => by simp [mget] at h
 | (k,x) :: m,hb,h => by
  simp only [List.all_cons,Bool.and_eq_true] at hb
  simp only [mget] at h
  split at h
  ·cases h; exact hb.1
  ·exact mget_below hb.2 h
  ·cases h
theorem mput_below {str : Bool} {n : Nat} {key : Value} {v : PV} (hv : below n v = true) : ∀ {m m' : List (Value × PV)},(m.all fun p => below n p.2) = true → mput str m key v = some m' → (m'.all fun p => below n p.2) = true
 | [],m',_,h => by
  simp only [mput] at h
  split at h
  ·cases h; simp [hv]
  ·cases h
 | (k,x) :: m,m',hb,h => by
  simp only [List.all_cons,Bool.and_eq_true] at hb
  simp only [mput] at h
  split at h
  ·cases h; simp only [List.all_cons,Bool.and_eq_true]; exact ⟨hv,hb.2⟩
  ·simp only [Option.bind_eq_some_iff,Option.some.injEq] at h
   obtain ⟨r',h4,rfl⟩ := h
   simp only [List.all_cons,Bool.and_eq_true]; exact ⟨hb.1,mput_below hv hb.2 h4⟩
  ·cases h
theorem mdel_below {str : Bool} {n : Nat} {key : Value} : ∀ {m m' : List (Value × PV)},(m.all fun p => below n p.2) = true → mdel str m key = some m' → (m'.all fun p => below n p.2) = true
 | [],m',_,h => by simp [mdel] at h; subst h; rfl
 | (k,x) :: m,m',hb,h => by
  simp only [List.all_cons,Bool.and_eq_true] at hb
  simp only [mdel] at h
  split at h
  ·cases h; exact hb.2
  ·simp only [Option.bind_eq_some_iff,Option.some.injEq] at h
   obtain ⟨r',h4,rfl⟩ := h
   simp only [List.all_cons,Bool.and_eq_true]; exact ⟨hb.1,mdel_below hb.2 h4⟩
  ·cases h
theorem sound_lookup (hi : INV bars κ σ w) (he : ENV κ σ.length env a.tmps) {str : Bool} {zero : PV} {m key : Opd} {ok : Bool} {m' key' : Operand} {t kt et : TypeId} {d : TypeDesc} {i : TypeInfo} {z : Value} (hm : chkO m m' = true) (hk : chkO key key' = true)
  (ht : P.underlying t = some (.map kt et)) (hkt : P.underlying kt = some d) (hd : keyKind str d) (hei : P.info? et = some i) (hz : i.zero = some z) (hzz : eqC zero z = true)
  (ho : o.op = .lookup t m' key' ok) (hr : opE bars env σ (.lookup str zero m key ok) = some r) : OpOK bars κ σ w ((execOp a.eval o).run P w) r := by
 simp only [opE] at hr
 split at hr
 ·rename_i id kv hmv hkv
  split at hr
  ·rename_i l hs
   simp only [Option.bind_eq_some_iff,Option.some.injEq] at hr
   obtain ⟨x,hx,rfl⟩ := hr
   obtain ⟨⟨q,h1,-,h1'⟩,-⟩ := chkO_spec he hm hmv
   obtain ⟨h2,-⟩ := chkO_spec he hk hkv
   simp only [RelV] at h2
   obtain ⟨hg,es,clock,hc,hre,hbo⟩ := hi.obs id _ hs
   have hq := h1' hg
   subst hq
   obtain ⟨hz1,hz2⟩ := eqC_spec κ σ.length zero z hzz
   have hbl : ∀ v,x = some v → below σ.length v = true := fun v hv => mget_below (n := σ.length) (by
    have := hi.wf _ _ hs
    simp only [obBelow,List.all_eq_true] at this ⊢
    exact fun p hp => below_mono (Nat.zero_le _) _ (this p hp)) (by rw [← hv]; exact hx)
   have hgo := run_getObj_map (P := P) hc
   have hck := checkKey_now (P := P) (w := w) (y := kv) hkt hd es.isEmpty 9999
   rcases mget_now hd 0 hre hx with ⟨rfl,hf⟩ | ⟨v,u,j,rfl,hf,hv⟩
   ·have hfk := run_findKey (w := w) hkt hf
    refine opOK_val hi (x := if ok then .tuple #[z,.bool false] else z) ?_ ?_ ?_
    ·simp [execOp,ho,h1,h2,Instr.lookup,run_underlying ht,hgo,hck,hfk,zeroValue,typeInfo,hei,hz]
    ·cases ok
     ·simpa using hz1
     ·exact ⟨_,rfl,⟨_,_,rfl,hz1,⟨_,_,rfl,rfl,rfl⟩⟩⟩
    ·cases ok
     ·simpa using hz2
     ·simp [below,below.belowAll,hz2]
   ·have hfk := run_findKey (w := w) hkt hf
    have hb := hbl v rfl
    refine opOK_val hi (x := if ok then .tuple #[u,.bool true] else u) ?_ ?_ ?_
    ·simp [execOp,ho,h1,h2,Instr.lookup,run_underlying ht,hgo,hck,hfk]
    ·cases ok
     ·simpa using hv
     ·exact ⟨_,rfl,⟨_,_,rfl,hv,⟨_,_,rfl,rfl,rfl⟩⟩⟩
    ·cases ok
     ·simpa using hb
     ·simp [below,below.belowAll,hb]
  ·cases hr
 ·cases hr
theorem Born.push {es : Array MapEntry} {clock : Nat} (h : Born es.toList clock) (k v : Value) : Born (es.push { key := k,val := v,born := clock }).toList (clock + 1) := by
 rw [Array.toList_push]
 refine ⟨fun x hx => ?_,?_⟩
 ·rw [List.mem_append] at hx
  rcases hx with hx | hx
  ·exact Nat.lt_succ_of_lt (h.1 x hx)
  ·rw [List.mem_singleton] at hx; subst hx; exact Nat.lt_succ_self _
 ·rw [List.map_append,List.nodup_append]
  refine ⟨h.2,by simp,fun a ha b hb => ?_⟩
  simp only [List.map_cons,List.map_nil,List.mem_singleton] at hb
  obtain ⟨x,hx,rfl⟩ := List.mem_map.1 ha
  have := h.1 x hx
  omega
theorem Born.modify {es : Array MapEntry} {clock : Nat} (h : Born es.toList clock) (j : Nat) (k v : Value) : Born (es.modify j fun e => { e with key := k,val := v }).toList clock := by
 have hmap : ((es.modify j fun e => { e with key := k,val := v }).toList.map (·.born)) = es.toList.map (·.born) := by
  apply List.ext_getElem?
  intro n
  simp only [List.getElem?_map,Array.getElem?_toList,Array.getElem?_modify]
  split
  ·cases es[n]? <;> rfl
  ·rfl
 refine ⟨fun x hx => ?_,by rw [hmap]; exact h.2⟩
 have : x.born ∈ es.toList.map (·.born) := by rw [← hmap]; exact List.mem_map.2 ⟨x,hx,rfl⟩
 obtain ⟨y,hy,he⟩ := List.mem_map.1 this
 rw [← he]; exact h.1 y hy
theorem Born.erase {es : Array MapEntry} {clock : Nat} (h : Born es.toList clock) (j : Nat) : Born (es.eraseIdxIfInBounds j).toList clock := by
 unfold Array.eraseIdxIfInBounds
 split
 ·rw [Array.toList_eraseIdx]
  exact ⟨fun x hx => h.1 x (List.mem_of_mem_eraseIdx hx),h.2.sublist ((List.eraseIdx_sublist _ _).map _)⟩
 ·exact h
theorem INV.map (hi : INV bars κ σ w) {id : Nat} {m m' : List (Value × PV)} {es es' : Array MapEntry} {clock clock' : Nat} (hs : σ[id]? = some (.mp m)) (hc : w.heap[(κ.ρ id).1]? = some (.map es clock)) (hr : RelEnts κ m' es'.toList) (hbo : Born es'.toList clock') (hb : (m'.all fun p => below 0 p.2) = true) :
  INV bars κ (σ.set id (.mp m')) { w with heap := w.heap.setIfInBounds (κ.ρ id).1 (.map es' clock') } ∧ Kept σ.length κ σ w κ (σ.set id (.mp m')) { w with heap := w.heap.setIfInBounds (κ.ρ id).1 (.map es' clock') } := by
 have hlt : id < σ.length := (List.getElem?_eq_some_iff.1 hs).1
 have hown : own κ σ id = some (κ.ρ id).1 := by rw [own_eq hs]; rfl
 obtain ⟨hg,-⟩ := hi.obs id _ hs
 obtain ⟨h1,h2⟩ := heap_set (w := w) (o' := .map es' clock') hc
 have hnc : ∀ o,w.cell? ⟨(κ.ρ id).1,o,none⟩ = none := fun o => by simp [World.cell?,hc]
 refine INV.one hi id (.mp m') (by omega) (by simp; omega) (sto_set_get hlt) (fun j hj => sto_set_other hj) (Ext.refl _ _) (fun _ _ _ => rfl) (by simp)
  (fun b hb hno => h2 b (fun e => hno (by rw [hown,e]))) (fun _ _ _ _ => rfl) ⟨hg,es',clock',h1,hr,hbo⟩ (fun b hb => by cases hb; exact .inl hown) (fun b o v hm => ?_) (fun b hcap => ?_) hb (fun _ _ _ => hb) rfl rfl rfl
 ·by_cases hbb : b = (κ.ρ id).1
  ·subst hbb
   have := hi.mem _ _ _ hm
   rw [hnc] at this; cases this
  ·have := hi.mem _ _ _ hm
   simp only [World.cell?] at this ⊢
   rw [h2 b hbb]; exact this
 ·obtain ⟨c,T,fr,hd,hsz⟩ := hi.cap b hcap
  by_cases hbb : b = (κ.ρ id).1
  ·subst hbb; rw [hc] at hd; cases hd
  ·exact ⟨c,T,fr,by rw [h2 b hbb]; exact hd,hsz⟩
theorem sound_mupd (hi : INV bars κ σ w) (he : ENV κ σ.length env a.tmps) {str : Bool} {m key v : Opd} {m' key' v' : Operand} {t kt et : TypeId} {d : TypeDesc} (hm : chkO m m' = true) (hk : chkO key key' = true) (hv : chkO v v' = true)
  (ht : P.underlying t = some (.map kt et)) (hkt : P.underlying kt = some d) (hd : keyKind str d)
  (ho : o.op = .mapUpdate t m' key' v') (hr : opE bars env σ (.mupd str m key v) = some r) : OpOK bars κ σ w ((execOp a.eval o).run P w) r := by
 simp only [opE] at hr
 split at hr
 ·rename_i id kv pv hmv hkv hpv
  split at hr
  ·rename_i l hs
   split at hr
   ·rename_i hb0
    simp only [Option.bind_eq_some_iff,Option.some.injEq] at hr
    obtain ⟨l',hl',rfl⟩ := hr
    obtain ⟨⟨q,h1,-,h1'⟩,-⟩ := chkO_spec he hm hmv
    obtain ⟨h2,-⟩ := chkO_spec he hk hkv
    obtain ⟨h3,-⟩ := chkO_spec he hv hpv
    simp only [RelV] at h2
    obtain ⟨hg,es,clock,hc,hre,hbo⟩ := hi.obs id _ hs
    have hq := h1' hg
    subst hq
    have hgo := run_getObj_map (P := P) hc
    have hck := checkKey_now (P := P) (w := w) (y := kv) hkt hd false 9999
    have hbm := mput_below (n := 0) hb0 (by simpa [obBelow] using hi.wf _ _ hs) hl'
    obtain ⟨hsb,hcase⟩ := mput_now hd (RelV.norm pv _ h3) 0 hre hl'
    have hstay : (Instr.keyThatStays kv kv).run P w = .ok kv w := by simp [Instr.keyThatStays,hsb]
    rcases hcase with ⟨hf,hre'⟩ | ⟨u,j,e,hf,hje,hek,hre'⟩
    ·have hfk := run_findKey (w := w) hkt hf
     obtain ⟨h5,h6⟩ := INV.map (es' := es.push { key := kv,val := a.eval v',born := clock }) (clock' := clock + 1) hi hs hc (by rw [Array.toList_push]; exact hre' clock) (hbo.push _ _) hbm
     refine ⟨κ,_,undef,.inr ⟨?_,rfl⟩,relV_undef _,rfl,h5,h6,by simp⟩
     simp [execOp,ho,h1,h2,Instr.mapUpdate,run_underlying ht,hgo,hck,hfk,run_setObj_map _ hc]
    ·have hfk := run_findKey (w := w) hkt hf
     have hj : es[j]? = some e := by simpa using hje
     obtain ⟨h5,h6⟩ := INV.map (es' := es.modify j fun e => { e with key := kv,val := a.eval v' }) (clock' := clock) hi hs hc (by
      have : (es.modify j fun e => { e with key := kv,val := a.eval v' }).toList = es.toList.set j { e with key := kv,val := a.eval v' } := by
       apply List.ext_getElem?
       intro n
       rw [Array.getElem?_toList,Array.getElem?_modify,List.getElem?_set,Array.getElem?_toList]
       have hlt := (List.getElem?_eq_some_iff.1 hje).1
       by_cases hjn : j = n
       ·subst hjn; simp [hj]; simpa using hlt
       ·simp [hjn]
      rw [this]; exact hre') (hbo.modify _ _ _) hbm
     refine ⟨κ,_,undef,.inr ⟨?_,rfl⟩,relV_undef _,rfl,h5,h6,by simp⟩
     simp only [Nat.zero_add] at hfk
     simp [execOp,ho,h1,h2,Instr.mapUpdate,run_underlying ht,hgo,hck,hfk,hj,hek,hstay,run_setObj_map _ hc]
   ·cases hr
  ·cases hr
 ·cases hr
theorem sound_del (hi : INV bars κ σ w) (he : ENV κ σ.length env a.tmps) {str : Bool} {m key : Opd} {m' key' : Operand} {t tk kt et : TypeId} {d : TypeDesc} (hm : chkO m m' = true) (hk : chkO key key' = true)
  (ht : P.underlying t = some (.map kt et)) (hkt : P.underlying kt = some d) (hd : keyKind str d)
  (ho : o.op = .call { callee := .builtin .delete,args := #[m',key'],argTypes := #[t,tk] }) (hr : opE bars env σ (.del str m key) = some r) : OpOK bars κ σ w ((execOp a.eval o).run P w) r := by
 simp only [opE] at hr
 split at hr
 ·rename_i id kv hmv hkv
  split at hr
  ·rename_i l hs
   simp only [Option.bind_eq_some_iff,Option.some.injEq] at hr
   obtain ⟨l',hl',rfl⟩ := hr
   obtain ⟨⟨q,h1,-,h1'⟩,-⟩ := chkO_spec he hm hmv
   obtain ⟨h2,-⟩ := chkO_spec he hk hkv
   simp only [RelV] at h2
   obtain ⟨hg,es,clock,hc,hre,hbo⟩ := hi.obs id _ hs
   have hq := h1' hg
   subst hq
   have hgo := run_getObj_map (P := P) hc
   have hck := checkKey_now (P := P) (w := w) (y := kv) hkt hd es.isEmpty 9999
   have hbm := mdel_below (n := 0) (by simpa [obBelow] using hi.wf _ _ hs) hl'
   rcases mdel_now hd 0 hre hl' with ⟨hf,hre'⟩ | ⟨u,j,hf,hj,hre'⟩
   ·have hfk := run_findKey (w := w) hkt hf
    obtain ⟨h5,h6⟩ := INV.map (es' := es) (clock' := clock) hi hs hc hre' hbo hbm
    refine ⟨κ,_,.tuple #[],.inl ?_,⟨_,rfl,rfl⟩,rfl,h5,h6,by simp⟩
    simp [execOp,ho,resolve,invoke,builtin,h1,h2,Builtin.delete_,run_underlying ht,hgo,hck,hfk,run_setObj_map _ hc]
   ·have hfk := run_findKey (w := w) hkt hf
    obtain ⟨h5,h6⟩ := INV.map (es' := es.eraseIdxIfInBounds j) (clock' := clock) hi hs hc (by
     have : (es.eraseIdxIfInBounds j).toList = es.toList.eraseIdx j := by
      unfold Array.eraseIdxIfInBounds
      rw [dif_pos (by simpa using hj),Array.toList_eraseIdx]
     rw [this]; exact hre') (hbo.erase _) hbm
    refine ⟨κ,_,.tuple #[],.inl ?_,⟨_,rfl,rfl⟩,rfl,h5,h6,by simp⟩
    simp only [Nat.zero_add] at hfk
    simp [execOp,ho,resolve,invoke,builtin,h1,h2,Builtin.delete_,run_underlying ht,hgo,hck,hfk,run_setObj_map _ hc]
  ·cases hr
 ·cases hr
theorem sound_tas (hi : INV bars κ σ w) (he : ENV κ σ.length env a.tmps) {t xt : TypeId} {zero : PV} {ok : Bool} {x : Opd} {x' : Operand} {d : TypeDesc} {i : TypeInfo} {z : Value} (hx : chkO x x' = true)
  (ht : P.underlying t = some d) (hd : ∀ ms,d ≠ .interface ms) (hei : P.info? t = some i) (hz : i.zero = some z) (hzz : eqC zero z = true)
  (ho : o.op = .typeAssert x' xt t ok) (hr : opE bars env σ (.tas t zero ok x) = some r) : OpOK bars κ σ w ((execOp a.eval o).run P w) r := by
 obtain ⟨hz1,hz2⟩ := eqC_spec κ σ.length zero z hzz
 have zrel : RelV κ (.tup [zero,.b false]) (.tuple #[z,.bool false]) := ⟨_,rfl,⟨_,_,rfl,hz1,⟨_,_,rfl,rfl,rfl⟩⟩⟩
 have zbel : below σ.length (.tup [zero,.b false]) = true := by simp [below,below.belowAll,hz2]
 simp only [opE] at hr
 split at hr
 ·rename_i u v hv
  obtain ⟨⟨y,h1,h1'⟩,h2⟩ := chkO_spec he hx hv
  split at hr
  ·rename_i hut
   subst hut
   cases hr
   refine opOK_val hi (x := if ok then .tuple #[y,.bool true] else y) ?_ ?_ ?_
   ·cases d <;> first | (exact absurd rfl (hd _)) | simp [execOp,ho,h1,Instr.typeAssert,run_underlying ht]
   ·cases ok
    ·simpa using h1'
    ·exact ⟨_,rfl,⟨_,_,rfl,h1',⟨_,_,rfl,rfl,rfl⟩⟩⟩
   ·simp only [below] at h2
    cases ok
    ·simpa using h2
    ·simp [below,below.belowAll,h2]
  ·rename_i hut
   split at hr
   ·rename_i hok
    subst hok
    cases hr
    refine opOK_val hi ?_ zrel zbel
    cases d <;> first | (exact absurd rfl (hd _)) | simp [execOp,ho,h1,hut,Instr.typeAssert,run_underlying ht,zeroValue,typeInfo,hei,hz]
   ·cases hr
 ·rename_i hv
  split at hr
  ·rename_i hok
   subst hok
   cases hr
   obtain ⟨h1,-⟩ := chkO_spec he hx hv
   simp only [RelV] at h1
   refine opOK_val hi ?_ zrel zbel
   cases d <;> first | (exact absurd rfl (hd _)) | simp [execOp,ho,h1,Instr.typeAssert,run_underlying ht,zeroValue,typeInfo,hei,hz]
  ·cases hr
 ·cases hr
theorem sound_panic (hi : INV bars κ σ w) (he : ENV κ σ.length env a.tmps) {x : Opd} {x' : Operand} (hx : chkO x x' = true)
  (ho : o.op = .panic x') (hr : opE bars env σ (.panic x) = some r) : OpOK bars κ σ w ((execOp a.eval o).run P w) r := by
 simp only [opE] at hr
 split at hr
 ·rename_i t v hv
  cases hr
  obtain ⟨⟨y,h1,h1'⟩,h2⟩ := chkO_spec he hx hv
  exact ⟨rfl,a.eval x',by simp [execOp,ho,h1,Instr.panic],⟨y,h1,h1'⟩,h2⟩
 ·cases hr
end
end Go.Ev


namespace Go.Ev
variable [CodeRel]
open Go.MapKept
section
variable {P : Program} {bars : List Nat} {κ : Kn} {σ : Sto} {w : World} {env : Env} {a : Act} {o : Oper} {r : OpR}
def kindT (P : Program) (k : Bool) (t : TypeId) : Bool := match P.underlying t with
 | some .string => k
 | some (.int _) => !k
 | _ => false
def flds (P : Program) : Nat → List Bool → List Field → Bool
 | _,[],[] => true
 | i,k :: kd,f :: r => f.offset == i && f.name != "_" && kindT P k f.type && flds P (i + 1) kd r
 | _,_,_ => false
theorem run_part_scalar {k : Bool} {t : TypeId} (h : kindT P k t = true) {cs : Array Value} {off : Nat} {v : Value} (hv : cs[off]? = some v) : (part t cs off).run P w = .ok v w := by
 unfold kindT at h
 split at h
 ·rename_i h'; simp [part,isAgg,run_underlying h',hv]
 ·rename_i h'; simp [part,isAgg,run_underlying h',hv]
 ·cases h
inductive KOK : List Bool → List Value → Prop
 | nil : KOK [] []
 | int {kd l} (j : IntKind) (x : Int) (h : KOK kd l) : KOK (false :: kd) (.int j x :: l)
 | str {kd l} (x : ByteArray) (h : KOK kd l) : KOK (true :: kd) (.string x :: l)
theorem keyA_rel {κ : Kn} : ∀ {kd : List Bool} {cs : List PV} {ks us : List Value},keyA kd cs = some ks → RelL κ cs us → us = ks ∧ KOK kd ks
 | [],[],ks,us,h,hr => by
  simp only [keyA,Option.some.injEq] at h
  simp only [RelL] at hr
  subst h; subst hr
  exact ⟨rfl,.nil⟩
 | [],_ :: _,ks,us,h,hr => by simp [keyA] at h
 | k :: kd,[],ks,us,h,hr => by cases k <;> simp [keyA] at h
 | k :: kd,p :: r,ks,us,h,hr => by
  simp only [RelL] at hr
  obtain ⟨v,l,rfl,hv,hl⟩ := hr
  unfold keyA at h
  split at h
  ·rename_i heq; cases heq
  ·rename_i heq1 heq2; cases heq1; cases heq2
   simp only [Option.bind_eq_some_iff,Option.some.injEq] at h
   obtain ⟨l',h1,rfl⟩ := h
   simp only [RelV] at hv
   obtain ⟨rfl,h2⟩ := keyA_rel h1 hl
   exact ⟨by rw [hv],.int _ _ h2⟩
  ·rename_i heq1 heq2; cases heq1; cases heq2
   simp only [Option.bind_eq_some_iff,Option.some.injEq] at h
   obtain ⟨l',h1,rfl⟩ := h
   simp only [RelV] at hv
   obtain ⟨rfl,h2⟩ := keyA_rel h1 hl
   exact ⟨by rw [hv],.str _ h2⟩
  ·cases h
theorem eqS_eq : ∀ {a b : List Value},eqS a b = some true → a = b
 | [],b,h => by
  cases b with
  | nil => rfl
  | cons y s => simp [eqS] at h
 | x :: r,b,h => by
  unfold eqS at h
  split at h
  ·rename_i h1; cases h1
  ·rename_i j x' r' k y s h1
   cases h1
   split at h
   ·rename_i hjk
    simp only [Option.bind_eq_some_iff,Option.some.injEq,Bool.and_eq_true,decide_eq_true_eq] at h
    obtain ⟨b,hb,rfl,rfl⟩ := h
    rw [hjk,eqS_eq hb]
   ·cases h
  ·rename_i x' r' y s h1
   cases h1
   simp only [Option.bind_eq_some_iff,Option.some.injEq,Bool.and_eq_true,decide_eq_true_eq] at h
   obtain ⟨b,hb,rfl,rfl⟩ := h
   rw [eqS_eq hb]
  ·cases h
theorem eqS_len : ∀ {a b : List Value} {c : Bool},eqS a b = some c → a.length = b.length
 | [],b,c,h => by
  cases b with
  | nil => rfl
  | cons y s => simp [eqS] at h
 | x :: r,b,c,h => by
  unfold eqS at h
  split at h
  ·rename_i h1; cases h1
  ·rename_i j x' r' k y s h1
   cases h1
   split at h
   ·simp only [Option.bind_eq_some_iff] at h
    obtain ⟨b,hb,-⟩ := h
    simp [eqS_len hb]
   ·cases h
  ·rename_i x' r' y s h1
   cases h1
   simp only [Option.bind_eq_some_iff] at h
   obtain ⟨b,hb,-⟩ := h
   simp [eqS_len hb]
  ·cases h
theorem eqFields_run (d : Nat) {xs ys : Array Value} : ∀ {kd : List Bool} {fs : List Field} {i : Nat} {b : Bool},flds P i kd fs = true → KOK kd (xs.toList.drop i) → eqS (xs.toList.drop i) (ys.toList.drop i) = some b → (Op.eqFields (d + 1) xs ys fs).run P w = .ok b w
 | [],[],i,b,_,hk,h => by
  generalize xs.toList.drop i = X at hk h
  cases hk
  have : ys.toList.drop i = [] := by have := eqS_len h; exact List.eq_nil_of_length_eq_zero this.symm
  rw [this] at h
  simp only [eqS,Option.some.injEq] at h
  subst h
  simp [Op.eqFields]
 | [],_ :: _,i,b,hf,_,_ => by simp [flds] at hf
 | _ :: _,[],i,b,hf,_,_ => by simp [flds] at hf
 | k :: kd,f :: fs,i,b,hf,hk,h => by
  simp only [flds,Bool.and_eq_true,beq_iff_eq,bne_iff_ne] at hf
  obtain ⟨⟨⟨rfl,hn⟩,hs⟩,hr⟩ := hf
  have hlen := eqS_len h
  have hxl : f.offset < xs.size := by
   cases hX : xs.toList.drop f.offset with
   | nil => rw [hX] at hk; cases hk
   | cons X r => have := congrArg List.length hX; simp at this; omega
  have hyl : f.offset < ys.size := by simp at hlen; omega
  have hx0 : xs[f.offset]? = some xs[f.offset] := Array.getElem?_eq_getElem hxl
  have hy0 : ys[f.offset]? = some ys[f.offset] := Array.getElem?_eq_getElem hyl
  have hdx : xs.toList.drop f.offset = xs[f.offset] :: xs.toList.drop (f.offset + 1) := by rw [List.drop_eq_getElem_cons (by simpa using hxl)]; simp
  have hdy : ys.toList.drop f.offset = ys[f.offset] :: ys.toList.drop (f.offset + 1) := by rw [List.drop_eq_getElem_cons (by simpa using hyl)]; simp
  rw [hdx,hdy] at h
  rw [hdx] at hk
  have hp1 := run_part_scalar (P := P) (w := w) hs hx0
  have hp2 := run_part_scalar (P := P) (w := w) hs hy0
  have step : ∀ (c : Bool) (b' : Bool),KOK kd (xs.toList.drop (f.offset + 1)) → (Op.equalIn (d + 1) f.type xs[f.offset] ys[f.offset]).run P w = .ok c w → eqS (xs.toList.drop (f.offset + 1)) (ys.toList.drop (f.offset + 1)) = some b' → (Op.eqFields (d + 1) xs ys (f :: fs)).run P w = .ok (c && b') w := by
   intro c b' hkk hc hb'
   have ih := eqFields_run d hr hkk hb'
   simp only [Op.eqFields]
   rw [if_pos hn]
   simp only [Sem.run_bind,hp1,Result.andThen_ok,hp2,hc]
   cases c
   ·simp
   ·simpa using ih
  generalize hX : xs[f.offset] = X at h hk step
  generalize hY : ys[f.offset] = Y at h step
  cases hk with
  | int j x hk =>
   unfold eqS at h
   split at h
   ·rename_i h1 _; cases h1
   ·rename_i j x r k y s h1 h2
    cases h1; cases h2
    split at h
    ·rename_i hjk
     subst hjk
     simp only [Option.bind_eq_some_iff,Option.some.injEq] at h
     obtain ⟨b',hb',rfl⟩ := h
     refine step _ b' hk ?_ hb'
     unfold kindT at hs
     split at hs
     ·cases hs
     ·rename_i kk hu
      rw [run_equalIn_int w d f.type j kk x y hu,int_beq_decide]
     ·cases hs
    ·cases h
   ·rename_i h1 h2; cases h1
   ·cases h
  | str x hk =>
   unfold eqS at h
   split at h
   ·rename_i h1 _; cases h1
   ·rename_i h1 h2; cases h1
   ·rename_i x r y s h1 h2
    cases h1; cases h2
    simp only [Option.bind_eq_some_iff,Option.some.injEq] at h
    obtain ⟨b',hb',rfl⟩ := h
    refine step _ b' hk ?_ hb'
    unfold kindT at hs
    split at hs
    ·rename_i hu
     have hbb : (x == y) = decide (x = y) := by rw [Bool.eq_iff_iff,bytes_beq]; simp
     rw [run_equalIn_string w d f.type x y hu,← beq_toListBytes,hbb]
    ·cases hs
    ·cases hs
   ·cases h
def KeyT (P : Program) (kd : List Bool) (kt : TypeId) : Prop := ∃ fs : Array Field,P.underlying kt = some (.struct fs) ∧ P.stoodInHeld kt = false ∧ flds P 0 kd fs.toList = true
theorem KOK.len : ∀ {kd : List Bool} {l : List Value},KOK kd l → l.length = kd.length
 | _,_,.nil => rfl
 | _,_,.int _ _ h => by simp [h.len]
 | _,_,.str _ h => by simp [h.len]
theorem equal_key {kd : List Bool} {kt : TypeId} (hk : KeyT P kd kt) {a b : List Value} {c : Bool} (ha : KOK kd a) (h : eqS a b = some c) : (Op.equal kt (.agg a.toArray) (.agg b.toArray)).run P w = .ok c w := by
 obtain ⟨fs,h1,h2,h3⟩ := hk
 have hf : P.fieldsOf kt = fs := by simp [Program.fieldsOf,h1]
 show (Op.equalIn (9999 + 1) kt _ _).run P w = _
 rw [run_equalIn_struct w 9999 kt _ _ (by rw [hf]; exact h1) h2,hf]
 exact eqFields_run 9998 h3 (by simpa using ha) (by simpa using h)
theorem checkScalar {k : Bool} {t : TypeId} (h : kindT P k t = true) (em : Bool) (n : Nat) (y : Value) : (Instr.checkKey em (n + 1) t y).run P w = .ok () w := by
 unfold kindT at h
 unfold Instr.checkKey
 split at h
 ·rename_i hu; simp [run_underlying hu]
 ·rename_i hu; simp [run_underlying hu]
 ·cases h
theorem checkKey2 {kd : List Bool} {kt : TypeId} (hk : KeyT P kd kt) (em : Bool) (n : Nat) {a : List Value} (ha : KOK kd a) : (Instr.checkKey em (n + 2) kt (.agg a.toArray)).run P w = .ok () w := by
 obtain ⟨fs,h1,h2,h3⟩ := hk
 unfold Instr.checkKey
 simp only [Sem.run_bind,run_underlying h1,Result.andThen_ok]
 rw [← Array.forIn_toList]
 have hl := ha.len
 have key : ∀ (kd : List Bool) (l : List Field) (i : Nat),flds P i kd l = true → i + kd.length ≤ a.length → ∀ (f : Field → PUnit → Sem (ForInStep PUnit)),(∀ g ∈ l,∀ k,kindT P k g.type = true → g.name ≠ "_" → ∀ v,a.toArray[g.offset]? = some v → (f g PUnit.unit).run P w = .ok (.yield PUnit.unit) w) → (forIn l PUnit.unit f).run P w = .ok PUnit.unit w := by
  intro kd l
  induction l generalizing kd with
  | nil => intro i _ _ f _; simp
  | cons g l ih =>
   intro i hf hle f hstep
   cases kd with
   | nil => simp [flds] at hf
   | cons k kd =>
    simp only [flds,Bool.and_eq_true,beq_iff_eq,bne_iff_ne] at hf
    obtain ⟨⟨⟨rfl,hn⟩,hs⟩,hr⟩ := hf
    simp only [List.length_cons] at hle
    have hlt : g.offset < a.toArray.size := by simp; omega
    have hv : a.toArray[g.offset]? = some a.toArray[g.offset] := Array.getElem?_eq_getElem hlt
    rw [List.forIn_cons,Sem.run_bind,hstep g (by simp) k hs hn _ hv,Result.andThen_ok]
    exact ih kd (g.offset + 1) hr (by omega) f fun g' hg' => hstep g' (by simp [hg'])
 have := key kd fs.toList 0 h3 (by omega) (fun f _ => if f.name ≠ "_" then do
       let v ← part f.type a.toArray f.offset
       Instr.checkKey em (n + 1) f.type v
       pure (ForInStep.yield PUnit.unit)
      else pure (ForInStep.yield PUnit.unit)) fun g hg k hs hn v hv => by
  have hp := run_part_scalar (P := P) (w := w) hs hv
  have hc := checkScalar (P := P) (w := w) hs em n v
  simp [hp,hc,hn]
 rw [this]
 rfl
theorem run_findKey2 {kd : List Bool} {kt : TypeId} (hk : KeyT P kd kt) {a : List Value} (ha : KOK kd a) {l : List MapEntry} {x : Option (Nat × Value)} (h : (Instr.findAsking kt (.agg a.toArray) l 0).run P w = .ok x w) : (Instr.findKey kt (.agg a.toArray) l).run P w = .ok x w := by
 obtain ⟨fs,h1,-,-⟩ := hk
 unfold Instr.findKey
 simp only [Sem.run_bind,run_underlying h1,Result.andThen_ok]
 cases l with
 | nil =>
  simp [Instr.findAsking] at h
  simp [Instr.findNow,h]
 | cons e l => simpa [Instr.findNow,Instr.sameNow] using h
theorem mget2_now {kd : List Bool} {kt : TypeId} (hk : KeyT P kd kt) {a : List Value} (ha : KOK kd a) : ∀ {m : List (Value × PV)} {l : List MapEntry} {x : Option PV} (i : Nat),RelEnts κ m l → mget2 m a = some x →
  (x = none ∧ (Instr.findAsking kt (.agg a.toArray) l i).run P w = .ok none w) ∨ ∃ v u j,x = some v ∧ (Instr.findAsking kt (.agg a.toArray) l i).run P w = .ok (some (i + j,u)) w ∧ RelV κ v u
 | [],l,x,i,hr,h => by
  simp only [RelEnts] at hr; subst hr
  simp only [mget2,Option.some.injEq] at h
  exact .inl ⟨h.symm,by simp [Instr.findAsking]⟩
 | (k,v) :: m,l,x,i,hr,h => by
  simp only [RelEnts] at hr
  obtain ⟨e,l',rfl,hek,hv,hr⟩ := hr
  unfold mget2 at h
  split at h
  ·rename_i h1; cases h1
  ·rename_i kk vv r h1
   cases h1
   have hq : ∀ c,eqS a kk.toList = some c → (Op.equal kt (.agg a.toArray) e.key).run P w = .ok c w := fun c hc => by
    rw [hek]
    have := equal_key (w := w) hk ha hc
    simpa using this
   split at h
   ·rename_i hc
    cases h
    exact .inr ⟨v,e.val,0,rfl,by simp [Instr.findAsking,hq _ hc],hv⟩
   ·rename_i hc
    rcases mget2_now hk ha (i + 1) hr h with ⟨h3,h4⟩ | ⟨v',u,j,h3,h4,h5⟩
    ·exact .inl ⟨h3,by simp [Instr.findAsking,hq _ hc,h4]⟩
    ·exact .inr ⟨v',u,j + 1,h3,by simp [Instr.findAsking,hq _ hc,h4]; omega,h5⟩
   ·cases h
  ·cases h
theorem sameBits_key {kd : List Bool} {a : List Value} (ha : KOK kd a) (n : Nat) : Instr.sameBits (n + 1) (.agg a.toArray) (.agg a.toArray) = true := by
 have : ∀ {kd : List Bool} {a : List Value},KOK kd a → ((a.zip a).all fun p => Instr.sameBits n p.1 p.2) = true := by
  intro kd a h
  induction h with
  | nil => rfl
  | int j x h ih => simp only [List.zip_cons_cons,List.all_cons,ih,Bool.and_true]; cases n <;> simp [Instr.sameBits]
  | str x h ih => simp only [List.zip_cons_cons,List.all_cons,ih,Bool.and_true]; cases n <;> simp [Instr.sameBits,bytes_beq]
 simp only [Instr.sameBits,beq_self_eq_true,Bool.true_and]
 exact this ha
theorem mput2_now {kd : List Bool} {kt : TypeId} (hk : KeyT P kd kt) {a : List Value} (ha : KOK kd a) {pv : PV} {val : Value} (hval : RelV κ pv val) : ∀ {m : List (Value × PV)} {l : List MapEntry} {m' : List (Value × PV)} (i : Nat),RelEnts κ m l → mput2 m a pv = some m' →
  ((Instr.findAsking kt (.agg a.toArray) l i).run P w = .ok none w ∧ ∀ b,RelEnts κ m' (l ++ [{ key := .agg a.toArray,val,born := b }])) ∨ ∃ u j e,(Instr.findAsking kt (.agg a.toArray) l i).run P w = .ok (some (i + j,u)) w ∧ l[j]? = some e ∧ e.key = .agg a.toArray ∧ RelEnts κ m' (l.set j { e with key := .agg a.toArray,val := val })
 | [],l,m',i,hr,h => by
  simp only [RelEnts] at hr; subst hr
  simp only [mput2,Option.some.injEq] at h
  subst h
  exact .inl ⟨by simp [Instr.findAsking],fun b => ⟨_,[],rfl,rfl,hval,rfl⟩⟩
 | (k,v) :: m,l,m',i,hr,h => by
  simp only [RelEnts] at hr
  obtain ⟨e,l',rfl,hek,hv,hr⟩ := hr
  unfold mput2 at h
  split at h
  ·rename_i h1; cases h1
  ·rename_i kk vv r h1
   cases h1
   have hq : ∀ c,eqS a kk.toList = some c → (Op.equal kt (.agg a.toArray) e.key).run P w = .ok c w := fun c hc => by
    rw [hek]
    have := equal_key (w := w) hk ha hc
    simpa using this
   split at h
   ·rename_i hc
    cases h
    have hkk : e.key = .agg a.toArray := by rw [hek,eqS_eq hc]
    exact .inr ⟨e.val,0,e,by simp [Instr.findAsking,hq _ hc],rfl,hkk,⟨_,l',rfl,rfl,hval,hr⟩⟩
   ·rename_i hc
    simp only [Option.bind_eq_some_iff,Option.some.injEq] at h
    obtain ⟨r',h4,rfl⟩ := h
    rcases mput2_now hk ha hval (i + 1) hr h4 with ⟨h6,h7⟩ | ⟨u,j,e',h6,h7,h8,h9⟩
    ·exact .inl ⟨by simp [Instr.findAsking,hq _ hc,h6],fun b => ⟨e,_,rfl,hek,hv,h7 b⟩⟩
    ·exact .inr ⟨u,j + 1,e',by simp [Instr.findAsking,hq _ hc,h6]; omega,by simpa using h7,h8,⟨e,_,rfl,hek,hv,h9⟩⟩
   ·cases h
  ·cases h
theorem mget2_below {n : Nat} {key : List Value} {v : PV} : ∀ {m : List (Value × PV)},(m.all fun p => below n p.2) = true → mget2 m key = some (some v) → below n v = true
 | [],_,h => by simp [mget2] at h
 | (k,x) :: m,hb,h => by
  simp only [List.all_cons,Bool.and_eq_true] at hb
  unfold mget2 at h
  split at h
  ·rename_i h1; cases h1
  ·rename_i h1
   cases h1
   split at h
   ·cases h; exact hb.1
   ·exact mget2_below hb.2 h
   ·cases h
  ·cases h
theorem mput2_below {n : Nat} {key : List Value} {v : PV} (hv : below n v = true) : ∀ {m m' : List (Value × PV)},(m.all fun p => below n p.2) = true → mput2 m key v = some m' → (m'.all fun p => below n p.2) = true
 | [],m',_,h => by
  simp only [mput2,Option.some.injEq] at h
  subst h; simp [hv]
 | (k,x) :: m,m',hb,h => by
  simp only [List.all_cons,Bool.and_eq_true] at hb
  unfold mput2 at h
  split at h
  ·rename_i h1; cases h1
  ·rename_i h1
   cases h1
   split at h
   ·cases h; simp only [List.all_cons,Bool.and_eq_true]; exact ⟨hv,hb.2⟩
   ·simp only [Option.bind_eq_some_iff,Option.some.injEq] at h
    obtain ⟨r',h4,rfl⟩ := h
    simp only [List.all_cons,Bool.and_eq_true]; exact ⟨hb.1,mput2_below hv hb.2 h4⟩
   ·cases h
  ·cases h
theorem key_rel {κ : Kn} {kd : List Bool} {cs : List PV} {ks : List Value} {n : Nat} {x : Value} (h : keyA kd cs = some ks) (hr : RelV κ (.agg cs) x) : x = .agg ks.toArray ∧ KOK kd ks := by
 obtain ⟨us,rfl,hr,-⟩ := hr
 obtain ⟨h1,h2⟩ := keyA_rel h hr
 exact ⟨by rw [← h1],h2⟩
theorem sound_stq (hi : INV bars κ σ w) (he : ENV κ σ.length env a.tmps) {kd : List Bool} {neg : Bool} {x y : Opd} {x' y' : Operand} {t t' : TypeId} (hx : chkO x x' = true) (hy : chkO y y' = true) (hk : KeyT P kd t) (hgt : P.eqGuardType P.depth t = false)
  (ho : o.op = .binOp (if neg then .neq else .eql) t x' y' t') (hr : opE bars env σ (.stq kd neg x y) = some r) : OpOK bars κ σ w ((execOp a.eval o).run P w) r := by
 simp only [opE] at hr
 split at hr
 ·rename_i ca cb hu hv
  simp only [Option.bind_eq_some_iff,Option.some.injEq] at hr
  obtain ⟨ka,hka,kb,hkb,c,hc,rfl⟩ := hr
  obtain ⟨h1,-⟩ := chkO_spec he hx hu
  obtain ⟨h2,-⟩ := chkO_spec he hy hv
  obtain ⟨h3,h4⟩ := key_rel (n := 0) hka h1
  obtain ⟨h5,h6⟩ := key_rel (n := 0) hkb h2
  have hg : ∀ op w,(eqGuard op t x' y' (.agg ka.toArray) (.agg kb.toArray)).run P w = .ok () w := fun op w => by
   unfold eqGuard; split <;> simp [hgt]
  have heq : ∀ w,(Op.equal t (.agg ka.toArray) (.agg kb.toArray)).run P w = .ok c w := fun w => equal_key hk h4 hc
  refine opOK_val hi (x := .bool (c != neg)) ?_ rfl rfl
  cases neg
  ·simp only [Bool.false_eq_true,if_false] at ho
   simp [execOp,ho,h3,h5,hg,binOp,heq]
  ·simp only [if_true] at ho
   simp [execOp,ho,h3,h5,hg,binOp,heq]
 ·cases hr
theorem sound_lookup2 (hi : INV bars κ σ w) (he : ENV κ σ.length env a.tmps) {kd : List Bool} {zero : PV} {m key : Opd} {ok : Bool} {m' key' : Operand} {t kt et : TypeId} {i : TypeInfo} {z : Value} (hm : chkO m m' = true) (hk : chkO key key' = true)
  (ht : P.underlying t = some (.map kt et)) (hkt : KeyT P kd kt) (hei : P.info? et = some i) (hz : i.zero = some z) (hzz : eqC zero z = true)
  (ho : o.op = .lookup t m' key' ok) (hr : opE bars env σ (.lookup2 kd zero m key ok) = some r) : OpOK bars κ σ w ((execOp a.eval o).run P w) r := by
 simp only [opE] at hr
 split at hr
 ·rename_i id cs hmv hkv
  simp only [Option.bind_eq_some_iff] at hr
  obtain ⟨ks,hks,hr⟩ := hr
  split at hr
  ·rename_i l hs
   simp only [Option.bind_eq_some_iff,Option.some.injEq] at hr
   obtain ⟨x,hx,rfl⟩ := hr
   obtain ⟨⟨q,h1,-,h1'⟩,-⟩ := chkO_spec he hm hmv
   obtain ⟨h2,-⟩ := chkO_spec he hk hkv
   obtain ⟨h2,hKOK⟩ := key_rel (n := 0) hks h2
   obtain ⟨hg,es,clock,hc,hre,hbo⟩ := hi.obs id _ hs
   have hq := h1' hg
   subst hq
   obtain ⟨hz1,hz2⟩ := eqC_spec κ σ.length zero z hzz
   have hbl : ∀ v,x = some v → below σ.length v = true := fun v hv => mget2_below (n := σ.length) (by
    have := hi.wf _ _ hs
    simp only [obBelow,List.all_eq_true] at this ⊢
    exact fun p hp => below_mono (Nat.zero_le _) _ (this p hp)) (by rw [← hv]; exact hx)
   have hgo := run_getObj_map (P := P) hc
   have hck := checkKey2 (P := P) (w := w) hkt es.isEmpty 9998 hKOK
   simp only [Nat.reduceAdd] at hck
   rcases mget2_now (w := w) hkt hKOK 0 hre hx with ⟨rfl,hf⟩ | ⟨v,u,j,rfl,hf,hv⟩
   ·have hfk := run_findKey2 hkt hKOK hf
    refine opOK_val hi (x := if ok then .tuple #[z,.bool false] else z) ?_ ?_ ?_
    ·simp [execOp,ho,h1,h2,Instr.lookup,run_underlying ht,hgo,hck,hfk,zeroValue,typeInfo,hei,hz]
    ·cases ok
     ·simpa using hz1
     ·exact ⟨_,rfl,⟨_,_,rfl,hz1,⟨_,_,rfl,rfl,rfl⟩⟩⟩
    ·cases ok
     ·simpa using hz2
     ·simp [below,below.belowAll,hz2]
   ·have hfk := run_findKey2 hkt hKOK hf
    have hb := hbl v rfl
    refine opOK_val hi (x := if ok then .tuple #[u,.bool true] else u) ?_ ?_ ?_
    ·simp [execOp,ho,h1,h2,Instr.lookup,run_underlying ht,hgo,hck,hfk]
    ·cases ok
     ·simpa using hv
     ·exact ⟨_,rfl,⟨_,_,rfl,hv,⟨_,_,rfl,rfl,rfl⟩⟩⟩
    ·cases ok
     ·simpa using hb
     ·simp [below,below.belowAll,hb]
  ·cases hr
 ·cases hr
theorem sound_mupd2 (hi : INV bars κ σ w) (he : ENV κ σ.length env a.tmps) {kd : List Bool} {m key v : Opd} {m' key' v' : Operand} {t kt et : TypeId} (hm : chkO m m' = true) (hk : chkO key key' = true) (hv : chkO v v' = true)
  (ht : P.underlying t = some (.map kt et)) (hkt : KeyT P kd kt)
  (ho : o.op = .mapUpdate t m' key' v') (hr : opE bars env σ (.mupd2 kd m key v) = some r) : OpOK bars κ σ w ((execOp a.eval o).run P w) r := by
 simp only [opE] at hr
 split at hr
 ·rename_i id cs pv hmv hkv hpv
  simp only [Option.bind_eq_some_iff] at hr
  obtain ⟨ks,hks,hr⟩ := hr
  split at hr
  ·rename_i l hs
   split at hr
   ·rename_i hb0
    simp only [Option.bind_eq_some_iff,Option.some.injEq] at hr
    obtain ⟨l',hl',rfl⟩ := hr
    obtain ⟨⟨q,h1,-,h1'⟩,-⟩ := chkO_spec he hm hmv
    obtain ⟨h2,-⟩ := chkO_spec he hk hkv
    obtain ⟨h3,-⟩ := chkO_spec he hv hpv
    obtain ⟨h2,hKOK⟩ := key_rel (n := 0) hks h2
    obtain ⟨hg,es,clock,hc,hre,hbo⟩ := hi.obs id _ hs
    have hq := h1' hg
    subst hq
    have hgo := run_getObj_map (P := P) hc
    have hck := checkKey2 (P := P) (w := w) hkt false 9998 hKOK
    simp only [Nat.reduceAdd] at hck
    have hbm := mput2_below (n := 0) hb0 (by simpa [obBelow] using hi.wf _ _ hs) hl'
    have hsb : ∀ n,Instr.sameBits (n + 1) (.agg ks.toArray) (.agg ks.toArray) = true := fun n => sameBits_key hKOK n
    have hcase := mput2_now (w := w) hkt hKOK (RelV.norm pv _ h3) 0 hre hl'
    have hstay : (Instr.keyThatStays (.agg ks.toArray) (.agg ks.toArray)).run P w = .ok (.agg ks.toArray) w := by simp [Instr.keyThatStays,hsb]
    rcases hcase with ⟨hf,hre'⟩ | ⟨u,j,e,hf,hje,hek,hre'⟩
    ·have hfk := run_findKey2 hkt hKOK hf
     obtain ⟨h5,h6⟩ := INV.map (es' := es.push { key := .agg ks.toArray,val := a.eval v',born := clock }) (clock' := clock + 1) hi hs hc (by rw [Array.toList_push]; exact hre' clock) (hbo.push _ _) hbm
     refine ⟨κ,_,undef,.inr ⟨?_,rfl⟩,relV_undef _,rfl,h5,h6,by simp⟩
     simp [execOp,ho,h1,h2,Instr.mapUpdate,run_underlying ht,hgo,hck,hfk,run_setObj_map _ hc]
    ·have hfk := run_findKey2 hkt hKOK hf
     have hj : es[j]? = some e := by simpa using hje
     obtain ⟨h5,h6⟩ := INV.map (es' := es.modify j fun e => { e with key := .agg ks.toArray,val := a.eval v' }) (clock' := clock) hi hs hc (by
      have : (es.modify j fun e => { e with key := .agg ks.toArray,val := a.eval v' }).toList = es.toList.set j { e with key := .agg ks.toArray,val := a.eval v' } := by
       apply List.ext_getElem?
       intro n
       rw [Array.getElem?_toList,Array.getElem?_modify,List.getElem?_set,Array.getElem?_toList]
       have hlt := (List.getElem?_eq_some_iff.1 hje).1
       by_cases hjn : j = n
       ·subst hjn; simp [hj]; simpa using hlt
       ·simp [hjn]
      rw [this]; exact hre') (hbo.modify _ _ _) hbm
     refine ⟨κ,_,undef,.inr ⟨?_,rfl⟩,relV_undef _,rfl,h5,h6,by simp⟩
     simp only [Nat.zero_add] at hfk
     simp [execOp,ho,h1,h2,Instr.mapUpdate,run_underlying ht,hgo,hck,hfk,hj,hek,hstay,run_setObj_map _ hc]
   ·cases hr
  ·cases hr
 ·cases hr
theorem sound_bslm (hi : INV bars κ σ w) (he : ENV κ σ.length env a.tmps) {esz len : Nat} {zero : List PV} {parts : List (Nat × Opd)} {parts' : Array (Nat × Operand)} {t elem : TypeId} {i : TypeInfo} {z : Value} (hc : chkParts2 parts parts'.toList = true)
  (ht : P.underlying t = some (.slice elem)) (hei : P.info? elem = some i) (hs : i.size = esz) (hz : i.zero = some z) (hzs : z.cells.size = esz) (hzz : eqCs zero z.cells.toList = true) (h1 : z.cells.toList.all Value.oneCell' = true) (hsmall : len * esz ≤ 2 ^ 24) (hpos : 0 < esz) (hlen : len ≠ 0)
  (ho : o.op = .buildSlice t len parts') (hr : opE bars env σ (.bslm esz len zero parts) = some r) : OpOK bars κ σ w ((execOp a.eval o).run P w) r := by
 simp only [opE,Option.bind_eq_some_iff] at hr
 obtain ⟨ps,hps,hr⟩ := hr
 split at hr
 ·rename_i hzl
  simp only [Option.bind_eq_some_iff,Option.some.injEq] at hr
  obtain ⟨es,hes,rfl⟩ := hr
  obtain ⟨h2,h3⟩ := eqCs_spec κ 0 zero _ hzz
  subst hs
  have hmade := made_flat z.cells len
  rw [hzs] at hmade
  obtain ⟨cells',g1,g2,g3,g4,g5,g6⟩ := bsl_sound he (cells := (Array.range (len * i.size)).map (z.cells[· % z.cells.size]!)) hc hps hes (fun e he => by rw [List.eq_of_mem_replicate he]; exact hzl)
   (by rw [hzs,hmade]; exact RelL.replicate h2 len) (fun v hv => by
    rw [hzs,hmade] at hv
    obtain ⟨l,hl,hv⟩ := List.mem_flatten.1 hv
    rw [List.eq_of_mem_replicate hl] at hv
    exact List.all_eq_true.1 h1 v hv) (belowEs_of fun e he => by rw [List.eq_of_mem_replicate he]; exact h3)
  simp only [List.length_replicate] at g6
  have hrun : (Instr.buildSlice t len (parts'.map fun p => (p.1,a.eval p.2))).run P w = .ok (.slice (some ⟨w.heap.size,0,none⟩) len len) (w.alloc (.cells cells' elem)) :=
   run_buildSlice w t elem len _ cells' i z ht hei hz (by omega) (by have := Nat.mul_pos (Nat.pos_of_ne_zero hlen) hpos; omega) (by rw [Array.toList_map]; exact g1)
  have hcf := hi.cap_fresh
  have hsz : cells'.size = len * i.size := by
   have := g2.length
   rw [flat_len g5,g6] at this
   simpa using this.symm
  let κ' : Kn := { κ with ρ := fun j => if j = σ.length then (w.heap.size,0) else κ.ρ j,gen := fun j => if j = σ.length then 0 else κ.gen j,esz := fun j => if j = σ.length then i.size else κ.esz j,cap := fun b => if b = w.heap.size then len * i.size else κ.cap b }
  have hext : Ext σ.length κ κ' := by
   refine ⟨fun j hj _ => ?_,fun j hj => ?_,fun j hj => ?_,fun _ _ _ => rfl,fun _ _ _ h => h,fun b => ?_⟩
   ·simp only [κ']; rw [if_neg (by omega)]
   ·simp only [κ']; rw [if_neg (by omega)]
   ·simp only [κ']; rw [if_neg (by omega)]; exact Nat.le_refl _
   ·simp only [κ']; split
    ·rename_i h; subst h; omega
    ·exact Nat.le_refl _
  obtain ⟨h6,h7⟩ := INV.push_ob (w' := w.alloc (.cells cells' elem)) (ob := .arr 0 i.size es) (κ' := κ') hi rfl rfl rfl rfl hext (fun j hj => by simp only [κ']; rw [if_neg (by omega)]) rfl
   (fun b hb => by
    simp only [κ'] at hb ⊢
    split at hb
    ·rename_i h; subst h
     exact .inr ⟨rfl,_,_,_,rfl,by simp [hsz]⟩
    ·rename_i h; rw [if_neg h]; exact .inl ⟨hb,rfl⟩)
   (by
    refine ⟨by simp [κ'],by simp [κ'],⟨cells',elem,by simp only [κ',if_true]; exact alloc_new _ _,g5,g3,[],[],cells'.toList,by simp,by simp [κ'],?_⟩,fun o _ => ?_⟩
    ·exact RelL.mono hext _ _ (by rw [belowEs_flatten]; exact belowEs_mono (Nat.zero_le _) _ g4) g2
    ·simp only [κ',if_true]; exact hi.M_fresh (Nat.le_refl _) o)
   (fun b hb => by simp only [blkOf,κ',if_true,Option.some.injEq] at hb; exact hb.symm)
   (by simp only [obBelow]; exact g4)
  refine ⟨_,_,.slice (some ⟨w.heap.size,0,none⟩) len len,.inl (by simp [execOp,ho,hrun]),⟨by simp [κ'],_,_,rfl,by simp,fun _ hm => ?_⟩,by simp [below],h6,h7,by simp⟩
  simp [κ']
 ·cases hr
theorem sound_cap (hi : INV bars κ σ w) (he : ENV κ σ.length env a.tmps) {x : Opd} {x' : Operand} {t : TypeId} (hx : chkO x x' = true) (ht : ∃ e,P.underlying t = some (.slice e))
  (ho : o.op = .call { callee := .builtin .cap,args := #[x'],argTypes := #[t] }) (hr : opE bars env σ (.cap x) = some r) : OpOK bars κ σ w ((execOp a.eval o).run P w) r := by
 simp only [opE] at hr
 split at hr
 ·rename_i es hv
  split at hr
  ·cases hr
   obtain ⟨⟨ad,cap,esz,h1,h2,h3,-⟩,-⟩ := chkO_spec he hx hv
   have h3 := h3 rfl
   subst h3
   obtain ⟨e,ht⟩ := ht
   refine opOK_val hi (x := .int .i64 es.length) ?_ rfl rfl
   simp [execOp,ho,resolve,invoke,builtin,Builtin.cap_,underlying,ht,h1,goInt]
  ·cases hr
 ·cases hr
theorem run_append_zeros {P : Program} (w : World) (t tn ty e : TypeId) (i : TypeInfo) (z : Value) (k kn : IntKind) (ad : Option Addr) (ht : P.underlying t = some (.slice e)) (htn : P.underlying tn = some (.int kn)) (hi : P.info? e = some i) (hz : i.zero = some z)
  (n : Nat) (h0 : 0 < n) (hs : 0 < i.size) (h63 : (n : Int) ≤ 9223372036854775807) (h48 : n * i.bytes ≤ 281474976710656) :
  (Builtin.append_ #[t,tn] ty #[.slice ad 0 0,.int k n]).run P w =
   .ok (.slice (some ⟨w.heap.size,0,none⟩) n (grownCap w n 0 e)) (w.drew.alloc (.cells (Builtin.zeroCells z.cells n ++ Builtin.zeroCells z.cells (grownCap w n 0 e - n)) e)) := by
 have hn : n ≠ 0 := by omega
 have hw : IntKind.i64.wrap (n : Int) = n := by rw [IntKind.wrap_i64]; omega
 have h63' : ¬ (9223372036854775807 < (n : Int)) := by omega
 have h48' : ¬ (281474976710656 < Builtin.nextslicecap n 0 * i.bytes) := by rw [nextslicecap_zero h0]; omega
 have h48i : ¬ (281474976710656 < (n : Int) * (i.bytes : Int)) := by
  rw [← Int.natCast_mul]
  omega
 have hneg : ¬ ((n : Int) < 0) := by omega
 have hns : ¬ (n * i.size = 0) := Nat.mul_ne_zero hn (by omega)
 have hf : ∀ w : World,(Builtin.firstCells i.size 0 (.slice ad 0 0)).run P w = .ok #[] w := by
  intro w
  cases ad with
  | none => exact run_firstCells_none w i.size 0 0 0
  | some b => exact run_firstCells_some w i.size 0 b 0 0 [] (by simp) (by simp)
 simp [Builtin.append_,run_underlying ht,run_underlying htn,sizeOf,typeInfo,zeroValue,hi,hz,asInt,asIntOf,hw,hn,hneg,hns,h63',h48',h48i,Question.forced,hf,newRow,grownCap]
theorem sound_appr (hi : INV bars κ σ w) (he : ENV κ σ.length env a.tmps) {esz : Nat} {zero : List PV} {x l : Opd} {x' l' : Operand} {t tx elem : TypeId} {i : TypeInfo} {z : Value} (hx : chkO x x' = true) (hl : chkO l l' = true)
  (ht : P.underlying t = some (.slice elem)) (htx : ∃ kn,P.underlying tx = some (.int kn)) (hei : P.info? elem = some i) (hs : i.size = esz) (hz : i.zero = some z) (hzs : z.cells.size = esz) (hzz : eqCs zero z.cells.toList = true) (h1 : z.cells.toList.all Value.oneCell' = true) (hby : i.bytes ≤ 32768) (hpos : 0 < esz)
  (ho : o.op = .call { callee := .builtin .append,args := #[x',l'],argTypes := #[t,tx] }) (hr : opE bars env σ (.appr esz zero x l) = some r) : OpOK bars κ σ w ((execOp a.eval o).run P w) r := by
 simp only [opE] at hr
 split at hr
 ·rename_i n hv hn
  split at hr
  ·rename_i hc
   obtain ⟨hn0,hnl,hzl⟩ := hc
   cases hr
   obtain ⟨⟨ad,cap,esz',e1,-,e3,-⟩,-⟩ := chkO_spec he hx hv
   have e3 := e3 rfl
   simp only [List.length_nil] at e1 e3
   subst e3
   obtain ⟨e2,-⟩ := chkO_spec he hl hn
   simp only [RelV] at e2
   obtain ⟨h4,h5⟩ := eqCs_spec κ 0 zero _ hzz
   subst hs
   obtain ⟨m,rfl⟩ : ∃ m : Nat,n = m := ⟨n.toNat,by omega⟩
   have hml : m ≤ LIM := by omega
   have hm0 : 0 < m := by omega
   have hb := fits hml hby
   obtain ⟨kn,htx⟩ := htx
   have hrun := run_append_zeros (P := P) w t tx o.type elem i z .i64 kn ad ht htx hei hz m hm0 hpos (by unfold LIM at hml; omega) (by omega)
   have hge := grownCap_ge w m 0 elem
   generalize hG : grownCap w m 0 elem = G at hge hrun
   have hmade := made_flat z.cells m
   generalize hrow : Builtin.zeroCells z.cells m ++ Builtin.zeroCells z.cells (G - m) = row at hrun
   have hrs : row.size = G * i.size := by
    rw [← hrow,Array.size_append,size_zeroCells,size_zeroCells,hzs,← Nat.add_mul]; congr 1; omega
   have hcf := hi.cap_fresh
   let κ' : Kn := { κ with ρ := fun j => if j = σ.length then (w.heap.size,0) else κ.ρ j,gen := fun j => if j = σ.length then 0 else κ.gen j,esz := fun j => if j = σ.length then i.size else κ.esz j,cap := fun b => if b = w.heap.size then G * i.size else κ.cap b }
   have hext : Ext σ.length κ κ' := by
    refine ⟨fun j hj _ => ?_,fun j hj => ?_,fun j hj => ?_,fun _ _ _ => rfl,fun _ _ _ h => h,fun b => ?_⟩
    ·simp only [κ']; rw [if_neg (by omega)]
    ·simp only [κ']; rw [if_neg (by omega)]
    ·simp only [κ']; rw [if_neg (by omega)]; exact Nat.le_refl _
    ·simp only [κ']; split
     ·rename_i h; subst h; omega
     ·exact Nat.le_refl _
   obtain ⟨h6,h7⟩ := INV.push_ob (w' := w.drew.alloc (.cells row elem)) (ob := .arr 0 i.size (List.replicate m zero)) (κ' := κ') hi rfl rfl rfl rfl hext (fun j hj => by simp only [κ']; rw [if_neg (by omega)]) rfl
    (fun b hb => by
     simp only [κ'] at hb ⊢
     split at hb
     ·rename_i h; subst h
      exact .inr ⟨rfl,_,_,_,rfl,by simp [hrs]⟩
     ·rename_i h; rw [if_neg h]; exact .inl ⟨hb,rfl⟩)
    (by
     refine ⟨by simp [κ'],by simp [κ'],⟨row,elem,by simp only [κ',if_true]; exact alloc_new w.drew _,fun e he => by rw [List.eq_of_mem_replicate he]; exact hzl,fun v hv => ?_,[],(Builtin.zeroCells z.cells (G - m)).toList,(List.replicate m z.cells.toList).flatten,?_,by simp [κ'],?_⟩,fun o _ => ?_⟩
     ·rw [← hrow,Array.toList_append,List.mem_append] at hv
      rcases hv with hv | hv
      ·exact zero_one _ (by omega) h1 v hv
      ·exact zero_one _ (by omega) h1 v hv
     ·rw [← hrow,Array.toList_append,List.nil_append]
      congr 1
     ·exact RelL.replicate (RelL.mono hext _ _ (belowAll_mono (Nat.zero_le _) _ h5) h4) m
     ·simp only [κ',if_true]; exact hi.M_fresh (Nat.le_refl _) o)
    (fun b hb => by simp only [blkOf,κ',if_true,Option.some.injEq] at hb; exact hb.symm)
    (by simp only [obBelow]; exact belowEs_of fun e he => by rw [List.eq_of_mem_replicate he]; exact h5)
   refine ⟨_,_,.slice (some ⟨w.heap.size,0,none⟩) m G,.inl ?_,⟨by simp [κ'],_,_,rfl,hge,fun _ hm => ?_⟩,by simp [below],h6,h7,by simp⟩
   ·simp [execOp,ho,resolve,invoke,builtin,e1,e2,hrun]
   ·simp [κ']
  ·cases hr
 ·cases hr
end
end Go.Ev


namespace Go.Ev
variable [CodeRel]
theorem ENV.mono {n m : Nat} {κ κ' : Kn} {env : Env} {tmps : Array Value} (h : ENV κ n env tmps) (he : Ext n κ κ') (hnm : n ≤ m) : ENV κ' m env tmps :=
 ⟨fun s v hs => RelV.mono he v _ (h.wf s v hs) (h.rel s v hs),fun s v hs => below_mono hnm v (h.wf s v hs),h.lt⟩
theorem ENV.cons' {n : Nat} {κ : Kn} {env : Env} {tmps : Array Value} (h : ENV κ n env tmps) {d : Nat} {v : PV} (hd : d < tmps.size) (hv : RelV κ v (tmps.getD d undef)) (hb : below n v = true) : ENV κ n ((d,v) :: env) tmps := by
 refine ⟨fun s u hs => ?_,fun s u hs => ?_,fun s u hs => ?_⟩ <;> simp only [look] at hs <;> split at hs
 ·rename_i hds; subst hds; cases hs; exact hv
 ·exact h.rel s u hs
 ·cases hs; exact hb
 ·exact h.wf s u hs
 ·rename_i hds; subst hds; exact hd
 ·exact h.lt s u hs
theorem INV.push_tok {bars : List Nat} {κ : Kn} {σ : Sto} {w : World} (h : INV bars κ σ w) (esz : Nat) :
  let κ' : Kn := { κ with gen := fun j => if j = σ.length then 0 else κ.gen j,esz := fun j => if j = σ.length then esz else κ.esz j,tok := fun j => if j = σ.length then none else κ.tok j }
  INV bars κ' (σ ++ [.tok esz 0]) w ∧ Kept σ.length κ σ w κ' (σ ++ [.tok esz 0]) w := by
 intro κ'
 have hext : Ext σ.length κ κ' := by
  refine ⟨fun j _ _ => rfl,fun j hj => ?_,fun j hj => ?_,fun j hj _ => ?_,fun _ _ _ h => h,fun _ => Nat.le_refl _⟩
  ·simp only [κ']; rw [if_neg (by omega)]
  ·simp only [κ']; rw [if_neg (by omega)]; exact Nat.le_refl _
  ·simp only [κ']; rw [if_neg (by omega)]
 refine INV.one h σ.length (.tok esz 0) (Nat.le_refl _) (by simp) (by simp) (fun j hj => ?_) hext (fun j hj _ => by simp only [κ']; rw [if_neg (by omega)]) (Nat.le_refl _) (fun _ _ _ => rfl) (fun _ _ _ _ => rfl)
  ⟨by simp [κ'],by simp [κ'],fun b e f hk => by simp [κ'] at hk⟩ (fun b hb => by simp [blkOf,κ'] at hb) h.mem h.cap rfl (fun n hn hlt => by have := (h.wfb n hn).1; omega) rfl rfl rfl
 rcases Nat.lt_or_ge j σ.length with h | h
 ·rw [List.getElem?_append_left h]
 ·rw [List.getElem?_eq_none (by simp; omega),List.getElem?_eq_none h]
section
variable {P : Program} {bars : List Nat} {κ : Kn} {σ : Sto} {w : World} {env : Env} {a : Act} {o : Oper} {r : OpR}
theorem OpOK.of_push {κ1 : Kn} {σ1 : Sto} {res : Result Next} {v : PV} {σ' : Sto} (hk : Kept σ.length κ σ w κ1 σ1 w) (hl : σ.length ≤ σ1.length) (h : OpOK bars κ1 σ1 w res (.val v σ')) : OpOK bars κ σ w res (.val v σ') := by
 obtain ⟨κ',w',x,h1,h2,h3,h4,h5,h6⟩ := h
 exact ⟨κ',w',x,h1,h2,h3,h4,hk.trans h5 hl,Nat.le_trans hl h6⟩
theorem elemsOf_push {y : PV} {ob : Ob} (hb : below σ.length y = true) : elemsOf (σ ++ [ob]) y = elemsOf σ y := by
 cases y with
 | rs id ver off len =>
  simp only [below,decide_eq_true_eq] at hb
  simp only [elemsOf,List.getElem?_append_left hb]
 | k v =>
  cases v with
  | slice q n c => cases n <;> rfl
  | _ => rfl
 | _ => rfl
theorem sound_appo (hi : INV bars κ σ w) (he : ENV κ σ.length env a.tmps) {esz : Nat} {x y : Opd} {x' y' : Operand} {t tx elem : TypeId} {i : TypeInfo} {z : Value} (hx : chkO x x' = true) (hy : chkO y y' = true)
  (ht : P.underlying t = some (.slice elem)) (htx : ∃ e',P.underlying tx = some (.slice e')) (hei : P.info? elem = some i) (hs : i.size = esz) (hz : i.zero = some z) (hzs : z.cells.size = esz) (hz1 : z.cells.toList.all Value.oneCell' = true) (hby : i.bytes ≤ 32768) (hpos : 0 < esz)
  (ho : o.op = .call { callee := .builtin .append,args := #[x',y'],argTypes := #[t,tx] }) (hr : opE bars env σ (.appo esz x y) = some r) : OpOK bars κ σ w ((execOp a.eval o).run P w) r := by
 cases x with
 | c _ => simp [opE] at hr
 | t s =>
  simp only [opE] at hr
  split at hr
  ·rename_i hl
   simp only [Option.bind_eq_some_iff] at hr
   obtain ⟨u,hu,ys,hys,hr⟩ := hr
   split at hr
   ·rename_i hall
    split at hr
    ·rename_i h0
     cases hr
     refine sound_app hi he hx hy ht htx hei hs hz hzs hz1 hby hpos ho ?_
     have hnil : ys = [] := List.length_eq_zero_iff.1 h0
     have hl' : ev env (.t s) = some (.sl true []) := hl
     have h1 : elemsOf σ (.sl true []) = some [] := rfl
     simp only [opE,hl',hu,Option.bind_some,h1,hys,hall,allLen,and_self,if_true,appE,h0]
    ·rename_i h0
     split at hr
     ·rename_i hlim
      cases hr
      obtain ⟨h1,h2⟩ := hi.push_tok esz
      have hwf := he.wf s _ hl
      have hrel := he.rel s _ hl
      have hlt := he.lt s _ hl
      have he1 := he.mono h2.ext (m := (σ ++ [Ob.tok esz 0]).length) (by simp)
      obtain ⟨ad,cap,es,hx',hc,htt,hE⟩ := hrel
      have hc0 : cap = 0 := by simpa using htt rfl
      subst hc0
      have hnew : RelV { κ with gen := fun j => if j = σ.length then 0 else κ.gen j,esz := fun j => if j = σ.length then esz else κ.esz j,tok := fun j => if j = σ.length then none else κ.tok j } (.ow σ.length 0 []) (a.tmps.getD s undef) :=
       ⟨Nat.zero_le _,ad,0,es,hx',Nat.le_refl _,fun hne => absurd rfl hne,fun _ => by simp [linkOw]⟩
      have he2 := he1.cons' hlt hnew (by simp [below,below.belowEs])
      have hub : below σ.length u = true := by
       cases y with
       | t m => exact he.wf m _ hu
       | c v => exact (chkO_spec he hy hu).2
      have hev : ev ((s,PV.ow σ.length 0 []) :: env) y = some u := by
       cases y with
       | c v => exact hu
       | t m =>
        simp only [ev,look]
        by_cases hm : s = m
        ·subst hm
         simp only [ev,hl,Option.some.injEq] at hu
         subst hu
         simp only [elemsOf,Option.some.injEq] at hys
         subst hys
         exact absurd rfl h0
        ·rw [if_neg hm]; exact hu
      refine OpOK.of_push h2 (by simp) (sound_app h1 he2 hx hy ht htx hei hs hz hzs hz1 hby hpos ho ?_)
      have hl' : ev ((s,PV.ow σ.length 0 []) :: env) (.t s) = some (.ow σ.length 0 []) := by simp [ev,look]
      have h3 : elemsOf (σ ++ [Ob.tok esz 0]) (.ow σ.length 0 []) = some [] := rfl
      simp only [opE,hl',hev,Option.bind_some,elemsOf_push hub,hys,h3,hall,allLen,and_self,if_true,appE,List.getElem?_append_right (Nat.le_refl _),Nat.sub_self,List.getElem?_cons_zero]
      have hp : 0 < ys.length := Nat.pos_of_ne_zero h0
      simp [hp,hlim]
     ·cases hr
   ·cases hr
  ·cases hr
theorem appq_app {esz : Nat} {x y : Opd} (hr : opE bars env σ (.appq esz x y) = some r) : opE bars env σ (.app esz x y) = some r := by
 simp only [opE,Option.bind_eq_some_iff] at hr ⊢
 obtain ⟨v,hv,u,hu,ys,hys,hr⟩ := hr
 split at hr
 ·rename_i t es
  split at hr
  ·rename_i hall
   refine ⟨_,hv,u,hu,es,rfl,ys,hys,?_⟩
   rw [if_pos hall]
   split at hr
   ·rename_i h0
    cases hr
    simp only [appE,h0,if_true,Option.bind_some]
   ·rename_i h0
    split at hr
    ·rename_i ht
     cases hr
     simp only [appE,h0,if_false,ht.1,true_and,if_pos ht.2,Option.bind_some]
    ·cases hr
  ·cases hr
 ·cases hr
theorem appq_sto {esz : Nat} {x y : Opd} (hr : opE bars env σ (.appq esz x y) = some r) : ∃ v,r = .val v σ := by
 simp only [opE,Option.bind_eq_some_iff] at hr
 obtain ⟨v,hv,u,hu,ys,hys,hr⟩ := hr
 repeat' split at hr
 all_goals first | (cases hr; exact ⟨_,rfl⟩) | cases hr
theorem appm_app {av : List Nat} {esz : Nat} {x y : Opd} (hr : opE bars env σ (.appm av esz x y) = some r) : opE bars env σ (.app esz x y) = some r := by
 simp only [opE,Option.bind_eq_some_iff] at hr ⊢
 obtain ⟨v,hv,hr⟩ := hr
 split at hr
 ·simp only [Option.bind_eq_some_iff] at hr
  obtain ⟨u,hu,p,hp,hr⟩ := hr
  unfold appmE at hp
  split at hp
  ·split at hp
   ·rename_i hall
    exact ⟨_,hv,_,hu,_,rfl,_,rfl,by rw [if_pos hall,hp]; exact hr⟩
   ·cases hp
  ·split at hp
   ·rename_i hall
    exact ⟨_,hv,_,hu,_,rfl,_,rfl,by rw [if_pos hall,hp]; exact hr⟩
   ·cases hp
  ·cases hp
 ·cases hr
theorem loadb_load {m : Nat} {n : Option Nat} {a : Opd} (hr : opE bars env σ (.loadb m n a) = some r) : opE bars env σ (.load n a) = some r := by
 simp only [opE,Option.bind_eq_some_iff] at hr ⊢
 obtain ⟨p,hp,hr⟩ := hr
 split at hr
 ·simp only [Option.bind_eq_some_iff] at hr
  exact ⟨p,hp,hr⟩
 ·cases hr
theorem setSelf {σ : Sto} {p : Nat} {x : Ob} (h : σ[p]? = some x) : σ.set p x = σ := by
 apply List.ext_getElem?
 intro i
 rw [List.getElem?_set]
 split
 ·rename_i hp; subst hp
  rw [h]; simp [(List.getElem?_eq_some_iff.1 h).1]
 ·rfl
theorem appmE_local {esz : Nat} {v u : PV} {p : PV × Sto} (h : appmE esz σ v u = some p) : (p.2 = σ ∧ ∀ τ,appmE esz τ v u = some (p.1,τ)) ∨
  ∃ id ob,top v = some id ∧ id < σ.length ∧ p.2 = σ.set id ob ∧ ∀ τ : Sto,τ[id]? = σ[id]? → appmE esz τ v u = some (p.1,τ.set id ob) := by
 unfold appmE at h
 split at h
 ·rename_i id n es t ys
  split at h
  ·rename_i hall
   simp only [appE] at h
   split at h
   ·rename_i k m hs
    split at h
    ·rename_i hc
     cases h
     refine .inr ⟨id,_,rfl,(List.getElem?_eq_some_iff.1 hs).1,rfl,fun τ hτ => ?_⟩
     simp only [appmE,if_pos hall,appE,hτ,hs,if_pos hc]
    ·rename_i hc
     split at h
     ·rename_i h0
      cases h
      refine .inr ⟨id,_,rfl,(List.getElem?_eq_some_iff.1 hs).1,(setSelf hs).symm,fun τ hτ => ?_⟩
      simp only [appmE,if_pos hall,appE,hτ,hs,if_neg hc,if_pos h0,setSelf (hτ.trans hs)]
     ·cases h
   ·cases h
  ·cases h
 ·rename_i t es t' ys
  split at h
  ·rename_i hall
   simp only [appE] at h
   split at h
   ·rename_i h0
    cases h
    exact .inl ⟨rfl,fun τ => by simp only [appmE,if_pos hall,appE,if_pos h0]⟩
   ·rename_i h0
    split at h
    ·rename_i hc
     cases h
     exact .inl ⟨rfl,fun τ => by simp only [appmE,if_pos hall,appE,if_neg h0,if_pos hc]⟩
    ·cases h
  ·cases h
 ·cases h
end
end Go.Ev


namespace Go.Ev
variable [CodeRel]
section
variable {P : Program} {bars : List Nat} {κ : Kn} {σ : Sto} {w : World} {env : Env} {a : Act} {o : Oper} {r : OpR}
theorem sound_appx (hi : INV bars κ σ w) (he : ENV κ σ.length env a.tmps) {esz : Nat} {x y : Opd} {x' y' : Operand} {t tx elem : TypeId} {i : TypeInfo} {z : Value} (hx : chkO x x' = true) (hy : chkO y y' = true)
  (ht : P.underlying t = some (.slice elem)) (htx : ∃ e',P.underlying tx = some (.slice e')) (hei : P.info? elem = some i) (hs : i.size = esz) (hz : i.zero = some z) (hzs : z.cells.size = esz) (hz1 : z.cells.toList.all Value.oneCell' = true) (hby : i.bytes ≤ 32768) (hpos : 0 < esz)
  (ho : o.op = .call { callee := .builtin .append,args := #[x',y'],argTypes := #[t,tx] }) (hr : opE bars env σ (.appx esz x y) = some r) : OpOK bars κ σ w ((execOp a.eval o).run P w) r := by
 simp only [opE,Option.bind_eq_some_iff] at hr
 obtain ⟨v,hv,u,hu,xs,hxs,ys,hys,hr⟩ := hr
 split at hr
 ·rename_i hall
  split at hr
  ·rename_i hti
   obtain ⟨hti,hpy⟩ := hti
   split at hr
   ·rename_i hc
    obtain ⟨hlim,hb0⟩ := hc
    cases hr
    obtain ⟨hall1,hall2⟩ := hall
    obtain ⟨h1,h2⟩ := chkO_spec he hx hv
    obtain ⟨h3,h4⟩ := chkO_spec he hy hu
    obtain ⟨ady,capy,news,hyv,hcy,hsrc,hnews⟩ := src_of hi htx h3 hys hall2
    obtain ⟨adx,capx,olds,hxv,hcx,hsrcx,holds⟩ := src_of hi ⟨_,ht⟩ h1 hxs hall1
    have hylen := allLen_spec hall2
    have hxlen := allLen_spec hall1
    have hnl : news.length = ys.length * esz := hsrc.newsLen
    have hol : olds.length = xs.length * esz := hsrcx.newsLen
    subst hs
    have hcapx : capx = xs.length := by
     unfold isTight at hti
     split at hti
     ·rename_i es
      simp only [elemsOf,Option.some.injEq] at hxs
      subst hxs
      obtain ⟨ad,cap,esz',hx',-,ht',-⟩ := h1
      rw [hxv] at hx'
      cases hx'
      exact ht' rfl
     ·cases hti
    have hg : capx < xs.length + ys.length := by omega
    have hcd := hsrcx.cellsD
    rw [hxv] at hcd
    have hrun := run_append_grow_src (P := P) w t tx o.type elem i z ht hei hz adx xs.length capx olds hcd (a.eval y') ys.length news hsrc hg (by unfold LIM at hlim; omega) (growslice_fits hg (fits hlim hby))
    have hge := grownCap_ge w (xs.length + ys.length) capx elem
    generalize hG : grownCap w (xs.length + ys.length) capx elem = G at hge hrun
    have hgrow : (execOp a.eval o).run P w = .ok (.value (.slice (some ⟨w.heap.size,0,none⟩) (xs.length + ys.length) G)) (w.drew.alloc (.cells ((olds ++ news).toArray ++ Builtin.zeroCells z.cells (G - (xs.length + ys.length))) elem)) := by
     simp [execOp,ho,resolve,invoke,builtin,hxv,hrun]
    have hal : (olds ++ news).length = (xs.length + ys.length) * i.size := by rw [List.length_append,hol,hnl,Nat.add_mul]
    generalize hrow : (olds ++ news).toArray ++ Builtin.zeroCells z.cells (G - (xs.length + ys.length)) = row at hgrow
    have hrs : row.size = G * i.size := by
     rw [← hrow,Array.size_append,size_zeroCells,hzs]
     simp only [List.size_toArray,hal]
     rw [← Nat.add_mul]; congr 1; omega
    have hrow1 : ∀ v ∈ row.toList,v.oneCell' = true := by
     intro v hv
     rw [← hrow,Array.toList_append,List.mem_append] at hv
     rcases hv with hv | hv
     ·rcases List.mem_append.1 (by simpa using hv : v ∈ olds ++ news) with hv | hv
      ·exact hsrcx.one v hv
      ·exact hsrc.one v hv
     ·exact zero_one _ (by omega) hz1 v hv
    have hcf := hi.cap_fresh
    let κ' : Kn := { κ with ρ := fun j => if j = σ.length then (w.heap.size,0) else κ.ρ j,gen := fun j => if j = σ.length then 1 else κ.gen j,esz := fun j => if j = σ.length then i.size else κ.esz j,cap := fun b => if b = w.heap.size then G * i.size else κ.cap b }
    have hext : Ext σ.length κ κ' := by
     refine ⟨fun j hj _ => ?_,fun j hj => ?_,fun j hj => ?_,fun _ _ _ => rfl,fun _ _ _ h => h,fun b => ?_⟩
     ·simp only [κ']; rw [if_neg (by omega)]
     ·simp only [κ']; rw [if_neg (by omega)]
     ·simp only [κ']; rw [if_neg (by omega)]; exact Nat.le_refl _
     ·simp only [κ']; split
      ·rename_i h; subst h; omega
      ·exact Nat.le_refl _
    have hbn : below.belowAll σ.length (xs ++ ys).flatten = true := by rw [belowEs_flatten]; exact belowEs_mono (Nat.zero_le _) _ hb0
    obtain ⟨h6,h7⟩ := INV.push_ob (w' := w.drew.alloc (.cells row elem)) (ob := .arr 1 i.size (xs ++ ys)) (κ' := κ') hi rfl rfl rfl rfl hext (fun j hj => by simp only [κ']; rw [if_neg (by omega)]) rfl
     (fun b hb => by
      simp only [κ'] at hb ⊢
      split at hb
      ·rename_i h; subst h
       exact .inr ⟨rfl,_,_,_,rfl,by simp [hrs]⟩
      ·rename_i h; rw [if_neg h]; exact .inl ⟨hb,rfl⟩)
     (by
      refine ⟨by simp [κ'],by simp [κ'],⟨row,elem,by simp only [κ',if_true]; simp [alloc_heap],fun e he => (List.mem_append.1 he).elim (hxlen e) (hylen e),hrow1,[],(Builtin.zeroCells z.cells (G - (xs.length + ys.length))).toList,olds ++ news,by rw [← hrow]; simp,by simp [κ'],?_⟩,fun o _ => ?_⟩
      ·rw [List.flatten_append] at hbn ⊢
       exact RelL.mono hext _ _ hbn (RelL.append holds hnews)
      ·simp only [κ',if_true]; exact hi.M_fresh (Nat.le_refl _) o)
     (fun b hb => by simp only [blkOf,κ',if_true,Option.some.injEq] at hb; exact hb.symm)
     (by simpa only [obBelow] using hb0)
    refine ⟨_,_,_,.inl hgrow,⟨by simp [κ'],_,_,rfl,hge,fun _ hm => ?_⟩,by simp [below],h6,h7,by simp⟩
    simp [κ']
   ·cases hr
  ·refine sound_app hi he hx hy ht htx hei hs hz hzs hz1 hby hpos ho ?_
   simp only [opE,hv,hu,hxs,hys,Option.bind_some,if_pos hall]
   exact hr
 ·cases hr
theorem INV.push_barr {bars : List Nat} {κ : Kn} {σ : Sto} {w : World} (h : INV bars κ σ w) (E : Nat) :
  let κ' : Kn := { κ with gen := fun j => if j = σ.length then 0 else κ.gen j,esz := fun j => if j = σ.length then 1 else κ.esz j,tok := fun j => if j = σ.length then none else κ.tok j }
  INV bars κ' (σ ++ [.barr E 0 ⟨#[]⟩]) w ∧ Kept σ.length κ σ w κ' (σ ++ [.barr E 0 ⟨#[]⟩]) w := by
 intro κ'
 have hext : Ext σ.length κ κ' := by
  refine ⟨fun j _ _ => rfl,fun j hj => ?_,fun j hj => ?_,fun j hj _ => ?_,fun _ _ _ h => h,fun _ => Nat.le_refl _⟩
  ·simp only [κ']; rw [if_neg (by omega)]
  ·simp only [κ']; rw [if_neg (by omega)]; exact Nat.le_refl _
  ·simp only [κ']; rw [if_neg (by omega)]
 refine INV.one h σ.length (.barr E 0 ⟨#[]⟩) (Nat.le_refl _) (by simp) (by simp) (fun j hj => ?_) hext (fun j hj _ => by simp only [κ']; rw [if_neg (by omega)]) (Nat.le_refl _) (fun _ _ _ => rfl) (fun _ _ _ _ => rfl)
  ⟨by simp [κ'],by simp [κ'],fun _ => rfl,fun h => absurd rfl h⟩ (fun b hb => by simp [blkOf] at hb) h.mem h.cap rfl (fun n hn hlt => by have := (h.wfb n hn).1; omega) rfl rfl rfl
 rcases Nat.lt_or_ge j σ.length with h | h
 ·rw [List.getElem?_append_left h]
 ·rw [List.getElem?_eq_none (by simp; omega),List.getElem?_eq_none h]
theorem sound_allocb (hi : INV bars κ σ w) {T E : Nat} {i : TypeInfo} {z : Value} (hti : P.info? T = some i) (hz : i.zero = some z) (hc : eqCs [.k (.pointer none),.sl true []] z.cells.toList = true) (h1 : z.cells.toList.all Value.oneCell' = true)
  (ho : o.op = .alloc T) (hr : opE bars env σ (.allocb T E) = some r) : OpOK bars κ σ w ((execOp a.eval o).run P w) r := by
 simp only [opE,Option.some.injEq] at hr
 subst hr
 obtain ⟨g1,g2⟩ := hi.push_barr E
 refine OpOK.of_push g2 (by simp) ?_
 generalize hκ : ({ κ with gen := fun j => if j = σ.length then 0 else κ.gen j,esz := fun j => if j = σ.length then 1 else κ.esz j,tok := fun j => if j = σ.length then none else κ.tok j } : Kn) = κ1 at g1 g2
 have hlen : (σ ++ [Ob.barr E 0 ⟨#[]⟩]).length = σ.length + 1 := by simp
 rw [← hlen]
 generalize hσ : σ ++ [Ob.barr E 0 ⟨#[]⟩] = σ1 at *
 obtain ⟨h2,h3⟩ := eqCs_spec κ1 σ1.length _ _ hc
 simp only [RelL] at h2
 obtain ⟨p,l,e1,hp,v,l2,rfl,hv,rfl⟩ := h2
 simp only [RelV] at hp
 subst hp
 have hcell : z.cells = #[.pointer none,v] := Array.toList_inj.1 (by simpa using e1)
 have hext := Ext.at κ1 σ1.length w.heap.size
 have hone : v.oneCell' = true := List.all_eq_true.1 h1 v (by rw [e1]; simp)
 obtain ⟨h6,h7⟩ := INV.push_ob (w' := w.alloc (.cells z.cells T)) (ob := .bld T false (.sl true []) σ.length) (κ' := κ1.at σ1.length w.heap.size) g1 rfl rfl rfl rfl hext (fun j hj => by simp [Kn.at,Nat.ne_of_lt hj]) rfl (fun b hb => .inl ⟨hb,rfl⟩)
  (by
   refine ⟨by simp [Kn.at],by simp [Kn.at],⟨v,?_,RelV.mono (n := σ1.length) hext _ _ rfl hv,hone⟩,fun o => ?_⟩
   ·simp only [Kn.at,if_true]; rw [hcell]; exact alloc_new _ _
   ·simp only [Kn.at,if_true]; exact g1.M_fresh (Nat.le_refl _) o)
  (fun b hb => by simp [blkOf,Kn.at] at hb; exact hb.symm) (by simp only [obBelow,below,below.belowEs,Bool.true_and,decide_eq_true_eq]; omega)
 refine ⟨_,_,.pointer (some ⟨w.heap.size,0,none⟩),.inl ?_,⟨⟨w.heap.size,0,none⟩,rfl,by simp [Kn.at],fun _ => ?_⟩,by simp [below],h6,h7,by simp⟩
 ·simp [execOp,ho,Instr.alloc,zeroValue,typeInfo,hti,hz,newVar,newRow]
 ·simp [Kn.at]
end
end Go.Ev


namespace Go.Ev
variable [CodeRel]
def zeroIs (P : Program) (t : TypeId) (zero : List PV) : Bool := match P.info? t with
 | some i => match i.zero with
  | some z => eqCs zero z.cells.toList && z.cells.toList.all Value.oneCell'
  | none => false
 | none => false
def zeroV (P : Program) (t : TypeId) (zero : PV) : Bool := match P.info? t with
 | some i => match i.zero with
  | some z => eqC zero z
  | none => false
 | none => false
def elemIs (P : Program) (t : TypeId) (esz : Nat) : Bool := match P.underlying t with
 | some (.slice e) => match P.info? e with
  | some i => i.size == esz && decide (0 < esz) && decide (i.bytes ≤ 32768) && (match i.zero with | some z => z.cells.size == esz && z.cells.toList.all Value.oneCell' | none => false)
  | none => false
 | _ => false
def elemZero (P : Program) (t : TypeId) (zero : List PV) : Bool := match P.underlying t with
 | some (.slice e) => match P.info? e with
  | some i => match i.zero with
   | some z => eqCs zero z.cells.toList
   | none => false
  | none => false
 | _ => false
def chkL : List Opd → List Operand → Bool
 | [],[] => true
 | x :: r,y :: s => chkO x y && chkL r s
 | _,_ => false
def isIface (P : Program) (t : TypeId) : Bool := match P.underlying t with
 | some (.interface _) => true
 | some _ => false
 | none => true
def isIfc (P : Program) (t : TypeId) : Bool := match P.underlying t with
 | some (.interface _) => true
 | _ => false
def keyIs (P : Program) (t : TypeId) (str : Bool) : Bool := match P.underlying t with
 | some (.map kt _) => match P.underlying kt with
  | some .string => str
  | some (.int _) => !str
  | _ => false
 | _ => false
def keyIs2 (P : Program) (t : TypeId) (kd : List Bool) : Bool := match P.underlying t with
 | some (.map kt _) => match P.underlying kt with
  | some (.struct fs) => !P.stoodInHeld kt && flds P 0 kd fs.toList
  | _ => false
 | _ => false
def keyIs1 (P : Program) (kt : TypeId) (kd : List Bool) : Bool := match P.underlying kt with
 | some (.struct fs) => !P.stoodInHeld kt && flds P 0 kd fs.toList
 | _ => false
theorem keyIs1_spec {P : Program} {kt : TypeId} {kd : List Bool} (h : keyIs1 P kt kd = true) : KeyT P kd kt := by
 unfold keyIs1 at h
 split at h
 ·rename_i fs hk
  simp only [Bool.and_eq_true,Bool.not_eq_true'] at h
  exact ⟨fs,hk,h.1,h.2⟩
 ·cases h
def elemVal (P : Program) (t : TypeId) (zero : PV) : Bool := match P.underlying t with
 | some (.map _ et) => zeroV P et zero
 | _ => false
def fldIs (P : Program) (t : TypeId) (k off : Nat) (n : Option Nat) : Bool := match P.underlying t with
 | some (.struct fs) => match fs[k]? with
  | some f => f.offset == off && szIs P f.type (n.getD 1) && aggIs P f.type n.isSome
  | none => false
 | _ => false
def faddrIs (P : Program) (t : TypeId) (k off : Nat) : Bool := match P.underlying t with
 | some (.struct fs) => match fs[k]? with
  | some f => f.offset == off && (match P.info? f.type with | some i => i.size != 0 | none => false)
  | none => false
 | _ => false
def idxIs (P : Program) (t : TypeId) (arr : Option Nat) (esz : Nat) : Bool := match P.underlying t,arr with
 | some (.slice e),none => szIs P e esz
 | some (.array n e),some m => n == m && szIs P e esz
 | _,_ => false
def slcIs (P : Program) (t : TypeId) (esz : Nat) : Bool := match P.underlying t with
 | some .string => esz == 0
 | some (.slice e) => szIs P e esz && esz != 0
 | _ => false
def isDesc (P : Program) (t : TypeId) (f : TypeDesc → Bool) : Bool := match P.underlying t with | some d => f d | none => false
def isSlice : TypeDesc → Bool | .slice _ => true | _ => false
def isStr : TypeDesc → Bool | .string => true | _ => false
def isBool : TypeDesc → Bool | .bool => true | _ => false
def isInt (k : IntKind) : TypeDesc → Bool | .int j => j == k | _ => false
def isInt' : TypeDesc → Bool | .int _ => true | _ => false
def mOK (P : Program) (t : TypeId) (name : String) (f : FuncId) : Bool := match P.info? t with
 | some i => (match i.methods.find? (·.name == name) with
  | some m => m.path.isEmpty && (match m.func with
   | some (g,pr) => g == f && (match P.underlying t with
    | some (.pointer _) => pr
    | some _ => !pr
    | none => false)
   | none => false)
  | none => false)
 | none => false
def chkCall (P : Program) (x : IOp) (c : Call) : Bool :=
 match x,c.callee,c.args.toList,c.argTypes.toList with
 | .len str x,.builtin .len,[x'],[t] => chkO x x' && isDesc P t (if str then isStr else isSlice)
 | .mm mx x y,.builtin b,[x',y'],_ => (match b with | .max => mx | .min => !mx | _ => false) && chkO x x' && chkO y y'
 | .app esz x y,.builtin .append,[x',y'],[t,tx] => chkO x x' && chkO y y' && elemIs P t esz && isDesc P tx isSlice
 | .appz esz x y,.builtin .append,[x',y'],[t,tx] => chkO x x' && chkO y y' && elemIs P t esz && isDesc P tx isSlice
 | .appo esz x y,.builtin .append,[x',y'],[t,tx] => chkO x x' && chkO y y' && elemIs P t esz && isDesc P tx isSlice
 | .apps x y,.builtin .append,[x',y'],[t,tx] => chkO x x' && chkO y y' && elemIs P t 1 && isDesc P tx isStr
 | .appx esz x y,.builtin .append,[x',y'],[t,tx] => chkO x x' && chkO y y' && elemIs P t esz && isDesc P tx isSlice
 | .appq esz x y,.builtin .append,[x',y'],[t,tx] => chkO x x' && chkO y y' && elemIs P t esz && isDesc P tx isSlice
 | .appm av esz x y,.builtin .append,[x',y'],[t,tx] => chkO x x' && chkO y y' && elemIs P t esz && isDesc P tx isSlice
 | .cap x,.builtin .cap,[x'],[t] => chkO x x' && isDesc P t isSlice
 | .appr esz zero x l,.builtin .append,[x',l'],[t,tx] => chkO x x' && chkO l l' && elemIs P t esz && elemZero P t zero && isDesc P tx isInt'
 | .del str m k,.builtin .delete,[m',k'],[t,_] => chkO m m' && chkO k k' && keyIs P t str
 | .call (.f n) args,.value (.func g),args',_ => n == g && decide (n < YB) && chkL args args'
 | .call (.v x) args,.value y,args',_ => chkO x y && chkL args args'
 | .call (.m x tab) args,.invoke y name,args',_ => chkO x y && chkL args args' && tab.all fun p => mOK P p.1 name p.2
 | .callq (.f n) args,.value (.func g),args',_ => n == g && decide (n < YB) && chkL args args'
 | .callq (.v x) args,.value y,args',_ => chkO x y && chkL args args'
 | .callg (.f n) args,.value (.func g),args',_ => n == g && decide (n < YB) && chkL args args'
 | .callm _ (.f n) args,.value (.func g),args',_ => n == g && decide (n < YB) && chkL args args'
 | .callm _ (.v x) args,.value y,args',_ => chkO x y && chkL args args'
 | _,_,_,_ => false
def chkOp (P : Program) (x : IOp) (o : Op) : Bool :=
 match x,o with
 | .mov x,.move y => chkO x y
 | .mov x,.assign y => chkO x y
 | .pick c x y,.pick c' x' y' => chkO c c' && chkO x x' && chkO y y'
 | .alloc zero,.alloc t => zeroIs P t zero
 | .allocb T E,.alloc t => t == T && zeroIs P t [.k (.pointer none),.sl true []]
 | .box _ x,.box _ y => chkO x y
 | .build zero parts,.build t parts' => (match placesOf P t with
  | some (z,pl) => chkParts pl parts parts'.toList && eqCs zero z.toList && z.toList.all Value.oneCell'
  | none => false)
 | .bslice esz len zero parts,.buildSlice t len' parts' => len == len' && chkParts2 parts parts'.toList && elemIs P t esz && elemZero P t zero && decide (len * esz ≤ 2 ^ 24) && (len != 0 || parts.isEmpty)
 | .bslm esz len zero parts,.buildSlice t len' parts' => len == len' && chkParts2 parts parts'.toList && elemIs P t esz && elemZero P t zero && decide (len * esz ≤ 2 ^ 24) && len != 0
 | .load n x,.load t y => chkO x y && szIs P t (n.getD 1) && aggIs P t n.isSome
 | .loadb _ n x,.load t y => chkO x y && szIs P t (n.getD 1) && aggIs P t n.isSome
 | .store n x y,.store t x' y' => chkO x x' && chkO y y' && szIs P t n
 | .storeb _ n x y,.store t x' y' => chkO x x' && chkO y y' && szIs P t n
 | .storem _ n x y,.store t x' y' => chkO x x' && chkO y y' && szIs P t n
 | .nilc x,.nilCheck y => chkO x y
 | .bin op x y,.binOp op' _ x' y' _ => op == op' && chkO x x' && chkO y y'
 | .stq kd neg x y,.binOp op' t x' y' _ => op' == (if neg then .neq else .eql) && chkO x x' && chkO y y' && keyIs1 P t kd && !P.eqGuardType P.depth t
 | .beq neg x y,.binOp op' t x' y' _ => op' == (if neg then .neq else .eql) && chkO x x' && chkO y y' && isDesc P t isBool
 | .not x,.unOp .not _ y => chkO x y
 | .neg x,.unOp .neg _ y => chkO x y
 | .conv k x,.convert s t y => chkO x y && isDesc P s (fun _ => true) && isDesc P t (isInt k)
 | .strc x,.convert s t y => chkO x y && isDesc P s (fun _ => true) && isDesc P t isStr
 | .miface t x,.makeInterface t' y => t == t' && chkO x y && !isIface P t
 | .mbm f xs,.makeFunc (.func g) first cap' => f == g && cap'.isEmpty && chkL xs first.toList
 | .slnil neg x,.binOp op t x' (.const (.slice none 0 0)) _ => decide (op = if neg then .neq else .eql) && chkO x x' && isDesc P t isSlice
 | .isnil neg x,.binOp op t x' (.const .nilIface) _ => decide (op = if neg then .neq else .eql) && chkO x x' && isIfc P t
 | .mfunc (.func f) cap,.makeFunc (.func g) first cap' => f == g && first.isEmpty && chkL cap cap'.toList
 | .mmap,.makeMap _ none => true
 | .mslice esz zero l,.makeSlice t l' c' => chkO l l' && chkO l c' && elemIs P t esz && elemZero P t zero
 | .slice esz x lo hi mx,.slice t x' lo' hi' mx' => chkO x x' && chkOo lo lo' && chkOo hi hi' && chkOo mx mx' && slcIs P t esz
 | .faddr off x,.fieldAddr t x' k => chkO x x' && faddrIs P t k off
 | .fld off n x,.field t x' k => chkO x x' && fldIs P t k off n
 | .iaddr arr esz x y,.indexAddr t x' y' => chkO x x' && chkO y y' && idxIs P t arr esz
 | .idx x y,.index t x' y' => chkO x x' && chkO y y' && isDesc P t isStr
 | .lookup str zero m k ok,.lookup t m' k' ok' => ok == ok' && chkO m m' && chkO k k' && keyIs P t str && elemVal P t zero
 | .mupd str m k v,.mapUpdate t m' k' v' => chkO m m' && chkO k k' && chkO v v' && keyIs P t str
 | .lookup2 kd zero m k ok,.lookup t m' k' ok' => ok == ok' && chkO m m' && chkO k k' && keyIs2 P t kd && elemVal P t zero
 | .mupd2 kd m k v,.mapUpdate t m' k' v' => chkO m m' && chkO k k' && chkO v v' && keyIs2 P t kd
 | .tas t zero ok x,.typeAssert x' _ t' ok' => t == t' && ok == ok' && chkO x x' && !isIface P t && zeroV P t zero
 | .extr i x,.extract y j => i == j && chkO x y
 | .panic x,.panic y => chkO x y
 | x,.call c => chkCall P x c
 | _,_ => false
def callable (P : Program) (f : FuncId) : Prop := ∃ fn,P.funcs[f]? = some fn ∧ fn.body.isSome = true ∧ (fn.name == "runtime.NumGoroutine") = false
theorem szIs_spec {P : Program} {t : TypeId} {n : Nat} (h : szIs P t n = true) : ∃ i,P.info? t = some i ∧ i.size = n := by
 unfold szIs at h
 split at h
 ·rename_i i hi; exact ⟨i,hi,by simpa using h⟩
 ·cases h
theorem isDesc_spec {P : Program} {t : TypeId} {f : TypeDesc → Bool} (h : isDesc P t f = true) : ∃ d,P.underlying t = some d ∧ f d = true := by
 unfold isDesc at h
 split at h
 ·rename_i d hd; exact ⟨d,hd,h⟩
 ·cases h
theorem elemIs_spec {P : Program} {t : TypeId} {esz : Nat} (h : elemIs P t esz = true) : ∃ e i z,P.underlying t = some (.slice e) ∧ P.info? e = some i ∧ i.size = esz ∧ 0 < esz ∧ i.bytes ≤ 32768 ∧ i.zero = some z ∧ z.cells.size = esz ∧ z.cells.toList.all Value.oneCell' = true := by
 unfold elemIs at h
 split at h
 ·rename_i e he
  split at h
  ·rename_i i hi
   simp only [Bool.and_eq_true,beq_iff_eq,decide_eq_true_eq] at h
   obtain ⟨⟨⟨h1,h2⟩,h3⟩,h4⟩ := h
   split at h4
   ·rename_i z hz
    simp only [Bool.and_eq_true,beq_iff_eq] at h4
    exact ⟨e,i,z,he,hi,h1,h2,h3,hz,h4.1,h4.2⟩
   ·cases h4
  ·cases h
 ·cases h
theorem elemZero_spec {P : Program} {t e : TypeId} {i : TypeInfo} {z : Value} {zero : List PV} (h : elemZero P t zero = true) (he : P.underlying t = some (.slice e)) (hi : P.info? e = some i) (hz : i.zero = some z) : eqCs zero z.cells.toList = true := by
 unfold elemZero at h
 simpa [he,hi,hz] using h
theorem isIface_spec {P : Program} {t : TypeId} (h : isIface P t = false) : ∃ d,P.underlying t = some d ∧ ∀ ms,d ≠ .interface ms := by
 unfold isIface at h
 split at h
 ·cases h
 ·rename_i d hn hd; exact ⟨d,hd,fun ms e => by subst e; exact hn ms rfl⟩
 ·cases h
theorem keyIs_spec {P : Program} {t : TypeId} {str : Bool} (h : keyIs P t str = true) : ∃ kt et d,P.underlying t = some (.map kt et) ∧ P.underlying kt = some d ∧ keyKind str d := by
 unfold keyIs at h
 split at h
 ·rename_i kt et ht
  split at h
  ·rename_i hk; exact ⟨kt,et,_,ht,hk,by simp [keyKind,h]⟩
  ·rename_i k hk; exact ⟨kt,et,_,ht,hk,by simp at h; simp [keyKind,h]⟩
  ·cases h
 ·cases h
theorem keyIs2_spec {P : Program} {t : TypeId} {kd : List Bool} (h : keyIs2 P t kd = true) : ∃ kt et,P.underlying t = some (.map kt et) ∧ KeyT P kd kt := by
 unfold keyIs2 at h
 split at h
 ·rename_i kt et ht
  split at h
  ·rename_i fs hk
   simp only [Bool.and_eq_true,Bool.not_eq_true'] at h
   exact ⟨kt,et,ht,fs,hk,h.1,h.2⟩
  ·cases h
 ·cases h
theorem zeroV_spec {P : Program} {t : TypeId} {zero : PV} (h : zeroV P t zero = true) : ∃ i z,P.info? t = some i ∧ i.zero = some z ∧ eqC zero z = true := by
 unfold zeroV at h
 split at h
 ·rename_i i hi
  split at h
  ·rename_i z hz; exact ⟨i,z,hi,hz,h⟩
  ·cases h
 ·cases h
theorem chkL_spec : ∀ {l : List Opd} {l' : List Operand},chkL l l' = true → l.length = l'.length ∧ ∀ p ∈ l.zip l',chkO p.1 p.2 = true
 | [],[],_ => ⟨rfl,by simp⟩
 | [],_ :: _,h => by simp [chkL] at h
 | _ :: _,[],h => by simp [chkL] at h
 | x :: r,y :: s,h => by
  simp only [chkL,Bool.and_eq_true] at h
  obtain ⟨h1,h2⟩ := chkL_spec h.2
  exact ⟨by simp [h1],fun p hp => by
   simp only [List.zip_cons_cons,List.mem_cons] at hp
   rcases hp with rfl | hp
   ·exact h.1
   ·exact h2 p hp⟩
section
variable {P : Program} {bars : List Nat} {κ : Kn} {σ : Sto} {w : World} {env : Env} {a : Act} {o : Oper} {r : OpR}
theorem run_callFunc {f : FuncId} (h : callable P f) (xs : Array Value) : (callFunc f xs).run P w = .ok (.enter f xs) w := by
 obtain ⟨fn,h1,h2,h3⟩ := h
 have h2' : fn.body ≠ none := by intro hb; rw [hb] at h2; cases h2
 have h3' : fn.name ≠ "runtime.NumGoroutine" := by simpa using h3
 simp [callFunc,h1,h2',h3']
theorem lookup_mem {t : TypeId} {n : FuncId} : ∀ {tab : List (TypeId × FuncId)},tab.lookup t = some n → (t,n) ∈ tab
 | [],h => by cases h
 | (u,m) :: r,h => by
  simp only [List.lookup] at h
  split at h
  ·rename_i hb; cases h; simp only [beq_iff_eq] at hb; subst hb; simp
  ·exact List.mem_cons_of_mem _ (lookup_mem h)
theorem sound_call_f (he : ENV κ σ.length env a.tmps) {n : FuncId} (hn : n < YB) {args : List Opd} {c : Call} (hcl : c.callee = .value (.func n)) (hl : chkL args c.args.toList = true)
  (ho : o.op = .call c) (hr : (evs env args).bind (fun vs => callE env σ (.f n) vs) = some r) (hcall : ∀ f xs σ',r = .call f xs σ' → f < YB → callable P f) : OpOK bars κ σ w ((execOp a.eval o).run P w) r := by
 simp only [Option.bind_eq_some_iff,callE,Option.some.injEq] at hr
 obtain ⟨vs,hvs,rfl⟩ := hr
 obtain ⟨h1,h2⟩ := chkL_spec hl
 obtain ⟨h3,h4⟩ := evs_spec he h1 h2 hvs
 refine ⟨rfl,c.args.map a.eval,?_,by simpa using h3,h4⟩
 refine .inl ⟨hn,?_⟩
 have := run_callFunc (w := w) (hcall n vs σ rfl hn) (c.args.map a.eval)
 simp [execOp,ho,resolve,hcl,Deferred.ofValue,Act.eval,invoke]
 simpa using this
theorem sound_call_v (he : ENV κ σ.length env a.tmps) {x : Opd} {y : Operand} {args : List Opd} {c : Call} (hcl : c.callee = .value y) (hx : chkO x y = true) (hl : chkL args c.args.toList = true)
  (ho : o.op = .call c) (hr : (evs env args).bind (fun vs => callE env σ (.v x) vs) = some r) (hcall : ∀ f xs σ',r = .call f xs σ' → f < YB → callable P f) : OpOK bars κ σ w ((execOp a.eval o).run P w) r := by
 simp only [Option.bind_eq_some_iff,callE] at hr
 obtain ⟨vs,hvs,hr⟩ := hr
 obtain ⟨h1,h2⟩ := chkL_spec hl
 obtain ⟨h3,h4⟩ := evs_spec he h1 h2 hvs
 split at hr
 ·rename_i n cap hv
  split at hr
  case isFalse => cases hr
  rename_i hn
  cases hr
  obtain ⟨⟨us,h5,h6⟩,h7⟩ := chkO_spec he hx hv
  refine ⟨rfl,c.args.map a.eval ++ us,.inl ⟨hn,?_⟩,?_,?_⟩
  ·have := run_callFunc (w := w) (hcall n _ σ rfl hn) (c.args.map a.eval ++ us)
   simp [execOp,ho,resolve,hcl,Deferred.ofValue,h5,invoke]
   simpa using this
  ·simpa using RelL.append h3 h6
  ·simp only [below] at h7
   simp [belowAll_append,h4,h7]
 ·rename_i l hv
  cases hr
  obtain ⟨⟨b,h5,h6,h7⟩,h8⟩ := chkO_spec he hx hv
  refine ⟨rfl,c.args.map a.eval,.inr ⟨l,b,rfl,by simpa [below] using h8,h7,fun r hl hs => ?_⟩,by simpa using h3,h4⟩
  have := run_yield (P := P) (args := c.args.map a.eval) hl hs
  simp [execOp,ho,resolve,hcl,Deferred.ofValue,h5,invoke]
  simpa using this
 ·rename_i n fs hv
  split at hr
  case isFalse => cases hr
  rename_i hn
  cases hr
  obtain ⟨⟨us,h5,h6⟩,h7⟩ := chkO_spec he hx hv
  refine ⟨rfl,us ++ c.args.map a.eval,.inl ⟨hn,?_⟩,?_,?_⟩
  ·have := run_callFunc (w := w) (hcall n _ σ rfl hn) (us ++ c.args.map a.eval)
   simp [execOp,ho,resolve,hcl,Deferred.ofValue,h5,invoke]
   simpa using this
  ·simpa using RelL.append h6 h3
  ·simp only [below] at h7
   simp [belowAll_append,h4,h7]
 ·cases hr
theorem run_method {t : TypeId} {v : Value} {name : String} {f : FuncId} (h : mOK P t name f = true) (fuel : Nat) : (method (fuel + 1) t v name).run P w = .ok (f,v) w := by
 unfold mOK at h
 split at h
 case h_2 => cases h
 rename_i i hi
 split at h
 case h_2 => cases h
 rename_i m hm
 simp only [Bool.and_eq_true] at h
 obtain ⟨hp,h⟩ := h
 have hp' : m.path = #[] := by simpa using hp
 split at h
 case h_2 => cases h
 rename_i g pr hmf
 simp only [Bool.and_eq_true,beq_iff_eq] at h
 obtain ⟨rfl,h⟩ := h
 unfold method
 cases hu : P.underlying t with
 | none => rw [hu] at h; cases h
 | some d =>
  rw [hu] at h
  cases d <;> simp only [Bool.not_eq_true'] at h <;> subst h <;> simp [typeInfo,hi,hm,hp',follow,hmf,receiverAt,underlying,hu,Place.get]
theorem sound_call_m (he : ENV κ σ.length env a.tmps) {x : Opd} {tab : List (TypeId × FuncId)} {y : Operand} {name : String} {args : List Opd} {c : Call} (hcl : c.callee = .invoke y name) (hx : chkO x y = true) (hl : chkL args c.args.toList = true) (htab : ∀ p ∈ tab,mOK P p.1 name p.2 = true)
  (ho : o.op = .call c) (hr : (evs env args).bind (fun vs => callE env σ (.m x tab) vs) = some r) (hcall : ∀ f xs σ',r = .call f xs σ' → f < YB → callable P f) : OpOK bars κ σ w ((execOp a.eval o).run P w) r := by
 simp only [Option.bind_eq_some_iff,callE] at hr
 obtain ⟨vs,hvs,hr⟩ := hr
 obtain ⟨h1,h2⟩ := chkL_spec hl
 obtain ⟨h3,h4⟩ := evs_spec he h1 h2 hvs
 split at hr
 case h_2 => cases hr
 rename_i t v hv
 simp only [Option.bind_eq_some_iff] at hr
 obtain ⟨n,hn,hr⟩ := hr
 split at hr
 case isFalse => cases hr
 rename_i hlt
 cases hr
 obtain ⟨⟨u,h5,h6⟩,h7⟩ := chkO_spec he hx hv
 have hm := htab (t,n) (lookup_mem hn)
 refine ⟨rfl,#[u] ++ c.args.map a.eval,.inl ⟨hlt,?_⟩,?_,?_⟩
 ·have h8 := run_callFunc (w := w) (hcall n _ σ rfl hlt) (#[u] ++ c.args.map a.eval)
  have h9 := run_method (w := w) (v := u) hm (P.types.size + Made.depth - 1)
  have h10 : P.types.size + Made.depth - 1 + 1 = P.types.size + Made.depth := by simp [Made.depth]
  rw [h10] at h9
  have h11 : (#[Value.iface t u] ++ c.args.map a.eval).extract 1 (#[Value.iface t u] ++ c.args.map a.eval).size = c.args.map a.eval := by
   apply Array.ext'
   simp
   exact List.take_of_length_le (by simp)
  have h12 : (#[Value.iface t u] ++ c.args.map a.eval)[0]? = some (.iface t u) := by rw [Array.getElem?_append_left (by simp)]; rfl
  have h13 : (resolve a.eval c o.type) = pure { target := .fn (.method name) #[],args := #[a.eval y] ++ c.args.map a.eval } := by
   unfold resolve
   rw [hcl]
  have h14 : (callMethod (.iface t u) name (c.args.map a.eval)).run P w = .ok (.enter n (#[u] ++ c.args.map a.eval)) w := by
   simp only [callMethod,Sem.run_bind,run_program,Result.andThen,h9,h8]
  simp only [execOp,ho,Sem.run_bind,h13,Sem.run_pure,Result.andThen,invoke,h5,h12,h11]
  exact h14
 ·rw [Array.toList_append]
  exact ⟨u,_,rfl,h6,by simpa using h3⟩
 ·simp only [below] at h7
  simp [below.belowAll,h4,h7]
theorem list_array1 {α : Type} {x : Array α} {u : α} (h : x.toList = [u]) : x = #[u] := Array.ext' (by simpa using h)
theorem list_array2 {α : Type} {x : Array α} {u v : α} (h : x.toList = [u,v]) : x = #[u,v] := Array.ext' (by simpa using h)
theorem chkOp_sound {x : IOp} (hc : chkOp P x o.op = true) (hi : INV bars κ σ w) (he : ENV κ σ.length env a.tmps) (hr : opE bars env σ x = some r) (hcall : ∀ f xs σ',r = .call f xs σ' → f < YB → callable P f) : OpOK bars κ σ w ((execOp a.eval o).run P w) r := by
 generalize hop : o.op = oo at hc
 unfold chkOp at hc
 split at hc
 ·exact sound_mov hi he hc (.inl hop) hr
 ·exact sound_mov hi he hc (.inr hop) hr
 ·simp only [Bool.and_eq_true] at hc
  exact sound_pick hi he hc.1.1 hc.1.2 hc.2 hop hr
 ·unfold zeroIs at hc
  split at hc
  ·rename_i i hti
   split at hc
   ·rename_i z hz
    simp only [Bool.and_eq_true] at hc
    exact sound_alloc hi hti hz hc.1 hc.2 hop hr
   ·cases hc
  ·cases hc
 ·rename_i T E t
  simp only [Bool.and_eq_true,beq_iff_eq] at hc
  obtain ⟨hT,hc⟩ := hc
  subst hT
  unfold zeroIs at hc
  split at hc
  ·rename_i i hti
   split at hc
   ·rename_i z hz
    simp only [Bool.and_eq_true] at hc
    exact sound_allocb hi hti hz hc.1 hc.2 hop hr
   ·cases hc
  ·cases hc
 ·exact sound_box hi he hc hop hr
 ·split at hc
  ·rename_i z pl hpl
   simp only [Bool.and_eq_true] at hc
   exact sound_build hi he hpl hc.1.1 hc.1.2 hc.2 hop hr
  ·cases hc
 ·simp only [Bool.and_eq_true,beq_iff_eq,decide_eq_true_eq,Bool.or_eq_true,bne_iff_ne] at hc
  obtain ⟨⟨⟨⟨⟨rfl,h1⟩,h2⟩,h3⟩,h4⟩,h5⟩ := hc
  obtain ⟨e,i,z,g1,g2,g3,g4,g5,g6,g7,g8⟩ := elemIs_spec h2
  exact sound_bslice hi he h1 g1 g2 g3 g6 g7 (elemZero_spec h3 g1 g2 g6) g8 h4 g4 (fun h0 => by rcases h5 with h5 | h5; exact absurd h0 h5; exact List.isEmpty_iff.1 h5) hop hr
 ·simp only [Bool.and_eq_true,beq_iff_eq,decide_eq_true_eq,bne_iff_ne] at hc
  obtain ⟨⟨⟨⟨⟨rfl,h1⟩,h2⟩,h3⟩,h4⟩,h5⟩ := hc
  obtain ⟨e,i,z,g1,g2,g3,g4,g5,g6,g7,g8⟩ := elemIs_spec h2
  exact sound_bslm hi he h1 g1 g2 g3 g6 g7 (elemZero_spec h3 g1 g2 g6) g8 h4 g4 h5 hop hr
 ·simp only [Bool.and_eq_true] at hc
  obtain ⟨i,h1,h2⟩ := szIs_spec hc.1.2
  exact sound_load hi he hc.1.1 h1 h2 hc.2 hop hr
 ·simp only [Bool.and_eq_true] at hc
  obtain ⟨i,h1,h2⟩ := szIs_spec hc.1.2
  exact sound_load hi he hc.1.1 h1 h2 hc.2 hop (loadb_load hr)
 ·simp only [Bool.and_eq_true] at hc
  obtain ⟨i,h1,h2⟩ := szIs_spec hc.2
  exact sound_store hi he hc.1.1 hc.1.2 h1 h2 hop hr
 ·simp only [Bool.and_eq_true] at hc
  obtain ⟨i,h1,h2⟩ := szIs_spec hc.2
  exact sound_storeb hi he hc.1.1 hc.1.2 h1 h2 hop hr
 ·simp only [Bool.and_eq_true] at hc
  obtain ⟨i,h1,h2⟩ := szIs_spec hc.2
  exact sound_storem hi he hc.1.1 hc.1.2 h1 h2 hop hr
 ·exact sound_nilc hi he hc hop hr
 ·simp only [Bool.and_eq_true,beq_iff_eq] at hc
  obtain ⟨⟨rfl,h1⟩,h2⟩ := hc
  exact sound_bin hi he h1 h2 hop hr
 ·simp only [Bool.and_eq_true,beq_iff_eq,Bool.not_eq_true'] at hc
  obtain ⟨⟨⟨⟨rfl,h1⟩,h2⟩,h3⟩,h4⟩ := hc
  exact sound_stq hi he h1 h2 (keyIs1_spec h3) h4 hop hr
 ·simp only [Bool.and_eq_true,beq_iff_eq] at hc
  obtain ⟨⟨⟨rfl,h1⟩,h2⟩,h3⟩ := hc
  obtain ⟨d,h4,h5⟩ := isDesc_spec h3
  have hb : d = .bool := by cases d <;> simp [isBool] at h5 ⊢
  subst hb
  exact sound_beq hi he h1 h2 h4 hop hr
 ·exact sound_not hi he hc hop hr
 ·exact sound_neg hi he hc hop hr
 ·simp only [Bool.and_eq_true] at hc
  obtain ⟨d,h1,-⟩ := isDesc_spec hc.1.2
  obtain ⟨d',h2,h3⟩ := isDesc_spec hc.2
  cases d' <;> simp [isInt] at h3
  subst h3
  exact sound_conv hi he hc.1.1 h1 h2 hop hr
 ·simp only [Bool.and_eq_true] at hc
  obtain ⟨d,h1,-⟩ := isDesc_spec hc.1.2
  obtain ⟨d',h2,h3⟩ := isDesc_spec hc.2
  cases d' <;> simp [isStr] at h3
  exact sound_strc hi he hc.1.1 h1 h2 hop hr
 ·simp only [Bool.and_eq_true,beq_iff_eq,Bool.not_eq_true'] at hc
  obtain ⟨⟨rfl,h1⟩,h2⟩ := hc
  obtain ⟨d,h3,h4⟩ := isIface_spec h2
  exact sound_miface hi he h1 h3 h4 hop hr
 ·simp only [Bool.and_eq_true,beq_iff_eq] at hc
  obtain ⟨⟨rfl,h1⟩,h2⟩ := hc
  obtain ⟨h3,h4⟩ := chkL_spec h2
  have := Array.isEmpty_iff.1 h1
  subst this
  exact sound_mbm hi he h3 h4 hop hr
 ·simp only [Bool.and_eq_true,decide_eq_true_eq] at hc
  obtain ⟨⟨rfl,h1⟩,h2⟩ := hc
  obtain ⟨d,h3,h4⟩ := isDesc_spec h2
  cases d <;> simp [isSlice] at h4
  exact sound_slnil hi he h1 h3 hop hr
 ·simp only [Bool.and_eq_true,decide_eq_true_eq] at hc
  obtain ⟨⟨rfl,h1⟩,h2⟩ := hc
  unfold isIfc at h2
  split at h2
  ·rename_i ms hms
   exact sound_isnil hi he h1 hms hop hr
  ·cases h2
 ·simp only [Bool.and_eq_true,beq_iff_eq] at hc
  obtain ⟨⟨rfl,h1⟩,h2⟩ := hc
  obtain ⟨h3,h4⟩ := chkL_spec h2
  have := Array.isEmpty_iff.1 h1
  subst this
  exact sound_mfunc hi he h3 h4 hop hr
 ·exact sound_mmap hi hop hr
 ·simp only [Bool.and_eq_true] at hc
  obtain ⟨⟨⟨h1,h2⟩,h3⟩,h4⟩ := hc
  obtain ⟨e,i,z,g1,g2,g3,g4,g5,g6,g7,g8⟩ := elemIs_spec h3
  exact sound_mslice hi he h1 h2 g1 g2 g3 g6 g7 (elemZero_spec h4 g1 g2 g6) g8 g5 g4 hop hr
 ·simp only [Bool.and_eq_true] at hc
  obtain ⟨⟨⟨⟨h1,h2⟩,h3⟩,h4⟩,h5⟩ := hc
  refine sound_slice hi he h1 h2 h3 h4 ?_ hop hr
  unfold slcIs at h5
  split at h5
  ·rename_i ht
   simp only [beq_iff_eq] at h5
   rw [if_pos h5]; exact ht
  ·rename_i e ht
   simp only [Bool.and_eq_true,bne_iff_ne] at h5
   obtain ⟨i,g1,g2⟩ := szIs_spec h5.1
   rw [if_neg h5.2]; exact ⟨e,i,ht,g1,g2⟩
  ·cases h5
 ·simp only [Bool.and_eq_true] at hc
  obtain ⟨h1,h2⟩ := hc
  unfold faddrIs at h2
  split at h2
  ·rename_i fs ht
   split at h2
   ·rename_i f hf
    simp only [Bool.and_eq_true,beq_iff_eq] at h2
    obtain ⟨h3,h4⟩ := h2
    split at h4
    ·rename_i i hfi
     exact sound_faddr hi he h1 ht hf hfi (by simpa using h4) h3 hop hr
    ·cases h4
   ·cases h2
  ·cases h2
 ·simp only [Bool.and_eq_true] at hc
  obtain ⟨h1,h2⟩ := hc
  unfold fldIs at h2
  split at h2
  ·rename_i fs ht
   split at h2
   ·rename_i f hf
    simp only [Bool.and_eq_true,beq_iff_eq] at h2
    obtain ⟨⟨h3,h4⟩,h5⟩ := h2
    obtain ⟨i,g1,g2⟩ := szIs_spec h4
    exact sound_fld hi he h1 ht hf g1 g2 h5 h3 hop hr
   ·cases h2
  ·cases h2
 ·simp only [Bool.and_eq_true] at hc
  obtain ⟨⟨h1,h2⟩,h3⟩ := hc
  unfold idxIs at h3
  split at h3
  ·rename_i e ht
   obtain ⟨i,g1,g2⟩ := szIs_spec h3
   exact sound_iaddr hi he h1 h2 (by simpa using ht) g1 g2 hop hr
  ·rename_i n e m ht
   simp only [Bool.and_eq_true,beq_iff_eq] at h3
   obtain ⟨rfl,h3⟩ := h3
   obtain ⟨i,g1,g2⟩ := szIs_spec h3
   exact sound_iaddr hi he h1 h2 (by simpa using ht) g1 g2 hop hr
  ·cases h3
 ·simp only [Bool.and_eq_true] at hc
  obtain ⟨⟨h1,h2⟩,h3⟩ := hc
  obtain ⟨d,h4,h5⟩ := isDesc_spec h3
  have hb : d = .string := by cases d <;> simp [isStr] at h5 ⊢
  subst hb
  exact sound_idx hi he h1 h2 h4 hop hr
 ·simp only [Bool.and_eq_true,beq_iff_eq] at hc
  obtain ⟨⟨⟨⟨rfl,h1⟩,h2⟩,h3⟩,h4⟩ := hc
  obtain ⟨kt,et,d,g1,g2,g3⟩ := keyIs_spec h3
  unfold elemVal at h4
  rw [g1] at h4
  obtain ⟨i,z,g4,g5,g6⟩ := zeroV_spec h4
  exact sound_lookup hi he h1 h2 g1 g2 g3 g4 g5 g6 hop hr
 ·simp only [Bool.and_eq_true] at hc
  obtain ⟨⟨⟨h1,h2⟩,h3⟩,h4⟩ := hc
  obtain ⟨kt,et,d,g1,g2,g3⟩ := keyIs_spec h4
  exact sound_mupd hi he h1 h2 h3 g1 g2 g3 hop hr
 ·simp only [Bool.and_eq_true,beq_iff_eq] at hc
  obtain ⟨⟨⟨⟨rfl,h1⟩,h2⟩,h3⟩,h4⟩ := hc
  obtain ⟨kt,et,g1,g2⟩ := keyIs2_spec h3
  unfold elemVal at h4
  rw [g1] at h4
  obtain ⟨i,z,g4,g5,g6⟩ := zeroV_spec h4
  exact sound_lookup2 hi he h1 h2 g1 g2 g4 g5 g6 hop hr
 ·simp only [Bool.and_eq_true] at hc
  obtain ⟨⟨⟨h1,h2⟩,h3⟩,h4⟩ := hc
  obtain ⟨kt,et,g1,g2⟩ := keyIs2_spec h4
  exact sound_mupd2 hi he h1 h2 h3 g1 g2 hop hr
 ·simp only [Bool.and_eq_true,beq_iff_eq,Bool.not_eq_true'] at hc
  obtain ⟨⟨⟨⟨rfl,rfl⟩,h1⟩,h2⟩,h3⟩ := hc
  obtain ⟨d,g1,g2⟩ := isIface_spec h2
  obtain ⟨i,z,g4,g5,g6⟩ := zeroV_spec h3
  exact sound_tas hi he h1 g1 g2 g4 g5 g6 hop hr
 ·simp only [Bool.and_eq_true,beq_iff_eq] at hc
  obtain ⟨rfl,h1⟩ := hc
  exact sound_extr hi he h1 hop hr
 ·exact sound_panic hi he hc hop hr
 ·rename_i c
  unfold chkCall at hc
  split at hc
  ·rename_i str x x' t h1 h2 h3
   simp only [Bool.and_eq_true] at hc
   obtain ⟨d,g1,g2⟩ := isDesc_spec hc.2
   obtain ⟨cc,ca,ct⟩ := c
   simp only at h1 h2 h3
   subst h1
   rw [list_array1 h2,list_array1 h3] at hop
   refine sound_len hi he hc.1 g1 ?_ hop hr
   cases str
   ·simp at g2 ⊢
    cases d <;> simp [isSlice] at g2 ⊢
   ·simp at g2 ⊢
    cases d <;> simp [isStr] at g2 ⊢
  ·rename_i mx x y b x' y' h1 h2
   simp only [Bool.and_eq_true] at hc
   obtain ⟨cc,ca,ct⟩ := c
   simp only at h1 h2
   subst h1
   rw [list_array2 h2] at hop
   have hb : b = if mx then .max else .min := by
    have := hc.1.1
    cases b <;> cases mx <;> simp at this ⊢
   subst hb
   exact sound_mm hi he hc.1.2 hc.2 hop hr
  ·rename_i esz x y x' y' t tx h1 h2 h3
   simp only [Bool.and_eq_true] at hc
   obtain ⟨⟨⟨g1,g2⟩,g3⟩,g4⟩ := hc
   obtain ⟨cc,ca,ct⟩ := c
   simp only at h1 h2 h3
   subst h1
   rw [list_array2 h2,list_array2 h3] at hop
   obtain ⟨e,i,z,k1,k2,k3,k4,k5,k6,k7,k8⟩ := elemIs_spec g3
   obtain ⟨d,k9,k10⟩ := isDesc_spec g4
   exact sound_app hi he g1 g2 k1 (by cases d <;> simp [isSlice] at k10; exact ⟨_,k9⟩) k2 k3 k6 k7 k8 k5 k4 hop hr
  ·rename_i esz x y x' y' t tx h1 h2 h3
   simp only [Bool.and_eq_true] at hc
   obtain ⟨⟨⟨g1,g2⟩,g3⟩,g4⟩ := hc
   obtain ⟨cc,ca,ct⟩ := c
   simp only at h1 h2 h3
   subst h1
   rw [list_array2 h2,list_array2 h3] at hop
   obtain ⟨e,i,z,k1,k2,k3,k4,k5,k6,k7,k8⟩ := elemIs_spec g3
   obtain ⟨d,k9,k10⟩ := isDesc_spec g4
   exact sound_appz hi he g1 g2 k1 (by cases d <;> simp [isSlice] at k10; exact ⟨_,k9⟩) k2 k3 k6 k7 k8 k5 k4 hop hr
  ·rename_i esz x y x' y' t tx h1 h2 h3
   simp only [Bool.and_eq_true] at hc
   obtain ⟨⟨⟨g1,g2⟩,g3⟩,g4⟩ := hc
   obtain ⟨cc,ca,ct⟩ := c
   simp only at h1 h2 h3
   subst h1
   rw [list_array2 h2,list_array2 h3] at hop
   obtain ⟨e,i,z,k1,k2,k3,k4,k5,k6,k7,k8⟩ := elemIs_spec g3
   obtain ⟨d,k9,k10⟩ := isDesc_spec g4
   exact sound_appo hi he g1 g2 k1 (by cases d <;> simp [isSlice] at k10; exact ⟨_,k9⟩) k2 k3 k6 k7 k8 k5 k4 hop hr
  ·rename_i x y x' y' t tx h1 h2 h3
   simp only [Bool.and_eq_true] at hc
   obtain ⟨⟨⟨g1,g2⟩,g3⟩,g4⟩ := hc
   obtain ⟨cc,ca,ct⟩ := c
   simp only at h1 h2 h3
   subst h1
   rw [list_array2 h2,list_array2 h3] at hop
   obtain ⟨e,i,z,k1,k2,k3,k4,k5,k6,k7,k8⟩ := elemIs_spec g3
   obtain ⟨d,k9,k10⟩ := isDesc_spec g4
   exact sound_apps hi he g1 g2 k1 (by cases d <;> simp [isStr] at k10; exact k9) k2 k3 k6 k7 k8 k5 hop hr
  ·rename_i esz x y x' y' t tx h1 h2 h3
   simp only [Bool.and_eq_true] at hc
   obtain ⟨⟨⟨g1,g2⟩,g3⟩,g4⟩ := hc
   obtain ⟨cc,ca,ct⟩ := c
   simp only at h1 h2 h3
   subst h1
   rw [list_array2 h2,list_array2 h3] at hop
   obtain ⟨e,i,z,k1,k2,k3,k4,k5,k6,k7,k8⟩ := elemIs_spec g3
   obtain ⟨d,k9,k10⟩ := isDesc_spec g4
   exact sound_appx hi he g1 g2 k1 (by cases d <;> simp [isSlice] at k10; exact ⟨_,k9⟩) k2 k3 k6 k7 k8 k5 k4 hop hr
  ·rename_i esz x y x' y' t tx h1 h2 h3
   simp only [Bool.and_eq_true] at hc
   obtain ⟨⟨⟨g1,g2⟩,g3⟩,g4⟩ := hc
   obtain ⟨cc,ca,ct⟩ := c
   simp only at h1 h2 h3
   subst h1
   rw [list_array2 h2,list_array2 h3] at hop
   obtain ⟨e,i,z,k1,k2,k3,k4,k5,k6,k7,k8⟩ := elemIs_spec g3
   obtain ⟨d,k9,k10⟩ := isDesc_spec g4
   exact sound_app hi he g1 g2 k1 (by cases d <;> simp [isSlice] at k10; exact ⟨_,k9⟩) k2 k3 k6 k7 k8 k5 k4 hop (appq_app hr)
  ·rename_i av esz x y x' y' t tx h1 h2 h3
   simp only [Bool.and_eq_true] at hc
   obtain ⟨⟨⟨g1,g2⟩,g3⟩,g4⟩ := hc
   obtain ⟨cc,ca,ct⟩ := c
   simp only at h1 h2 h3
   subst h1
   rw [list_array2 h2,list_array2 h3] at hop
   obtain ⟨e,i,z,k1,k2,k3,k4,k5,k6,k7,k8⟩ := elemIs_spec g3
   obtain ⟨d,k9,k10⟩ := isDesc_spec g4
   exact sound_app hi he g1 g2 k1 (by cases d <;> simp [isSlice] at k10; exact ⟨_,k9⟩) k2 k3 k6 k7 k8 k5 k4 hop (appm_app hr)
  ·rename_i x x' t h1 h2 h3
   simp only [Bool.and_eq_true] at hc
   obtain ⟨d,g1,g2⟩ := isDesc_spec hc.2
   obtain ⟨cc,ca,ct⟩ := c
   simp only at h1 h2 h3
   subst h1
   rw [list_array1 h2,list_array1 h3] at hop
   exact sound_cap hi he hc.1 (by cases d <;> simp [isSlice] at g2; exact ⟨_,g1⟩) hop hr
  ·rename_i esz zero x l x' l' t tx h1 h2 h3
   simp only [Bool.and_eq_true] at hc
   obtain ⟨⟨⟨⟨g1,g2⟩,g3⟩,g4⟩,g5⟩ := hc
   obtain ⟨cc,ca,ct⟩ := c
   simp only at h1 h2 h3
   subst h1
   rw [list_array2 h2,list_array2 h3] at hop
   obtain ⟨e,i,z,k1,k2,k3,k4,k5,k6,k7,k8⟩ := elemIs_spec g3
   obtain ⟨d,k9,k10⟩ := isDesc_spec g5
   exact sound_appr hi he g1 g2 k1 (by cases d <;> simp [isInt'] at k10; exact ⟨_,k9⟩) k2 k3 k6 k7 (elemZero_spec g4 k1 k2 k6) k8 k5 k4 hop hr
  ·rename_i str m k m' k' t tk h1 h2 h3
   simp only [Bool.and_eq_true] at hc
   obtain ⟨⟨g1,g2⟩,g3⟩ := hc
   obtain ⟨cc,ca,ct⟩ := c
   simp only at h1 h2 h3
   subst h1
   rw [list_array2 h2,list_array2 h3] at hop
   obtain ⟨kt,et,d,k1,k2,k3⟩ := keyIs_spec g3
   exact sound_del hi he g1 g2 k1 k2 k3 hop hr
  ·rename_i n args g h1
   simp only [Bool.and_eq_true,beq_iff_eq,decide_eq_true_eq] at hc
   obtain ⟨⟨rfl,hn⟩,h2⟩ := hc
   exact sound_call_f he hn h1 h2 hop hr hcall
  ·rename_i x args y h1
   simp only [Bool.and_eq_true] at hc
   exact sound_call_v he h1 hc.1 hc.2 hop hr hcall
  ·rename_i x tab args y name h1
   simp only [Bool.and_eq_true,List.all_eq_true] at hc
   exact sound_call_m he h1 hc.1.1 hc.1.2 hc.2 hop hr hcall
  ·rename_i n args g h1
   simp only [Bool.and_eq_true,beq_iff_eq,decide_eq_true_eq] at hc
   obtain ⟨⟨rfl,hn⟩,h2⟩ := hc
   exact sound_call_f he hn h1 h2 hop hr hcall
  ·rename_i x args y h1
   simp only [Bool.and_eq_true] at hc
   exact sound_call_v he h1 hc.1 hc.2 hop hr hcall
  ·rename_i n args g h1
   simp only [Bool.and_eq_true,beq_iff_eq,decide_eq_true_eq] at hc
   obtain ⟨⟨rfl,hn⟩,h2⟩ := hc
   exact sound_call_f he hn h1 h2 hop hr hcall
  ·rename_i av n args g h1
   simp only [Bool.and_eq_true,beq_iff_eq,decide_eq_true_eq] at hc
   obtain ⟨⟨rfl,hn⟩,h2⟩ := hc
   exact sound_call_f he hn h1 h2 hop hr hcall
  ·rename_i av x args y h1
   simp only [Bool.and_eq_true] at hc
   exact sound_call_v he h1 hc.1 hc.2 hop hr hcall
  ·cases hc
 ·cases hc
end
end Go.Ev


namespace Go.Ev
variable [CodeRel]
theorem ENV.cons {n : Nat} {κ : Kn} {env : Env} {tmps : Array Value} (h : ENV κ n env tmps) {d : Nat} {v : PV} {x : Value} (hd : d < tmps.size) (hv : RelV κ v x) (hb : below n v = true) : ENV κ n ((d,v) :: env) (tmps.setIfInBounds d x) := by
 refine ⟨fun s u hs => ?_,fun s u hs => ?_,fun s u hs => ?_⟩ <;> simp only [look] at hs <;> split at hs
 ·rename_i hds; subst hds; cases hs
  rw [Array.getD_eq_getD_getElem?,Array.getElem?_setIfInBounds_self_of_lt hd]; exact hv
 ·rename_i hds
  have := h.rel s u hs
  rw [Array.getD_eq_getD_getElem?] at this ⊢
  rwa [Array.getElem?_setIfInBounds_ne hds]
 ·cases hs; exact hb
 ·exact h.wf s u hs
 ·rename_i hds; subst hds; simpa using hd
 ·simpa using h.lt s u hs
theorem ENV.put {n : Nat} {κ : Kn} {env : Env} {a : Act} (h : ENV κ n env a.tmps) {dst : Option Nat} {v : PV} {x : Value} (hd : ∀ d,dst = some d → d < a.tmps.size) (hv : RelV κ v x) (hb : below n v = true) : ENV κ n (putE env dst v) (a.put dst x).tmps := by
 cases dst with
 | none => exact h
 | some d => exact h.cons (hd d rfl) hv hb
theorem look_restrict {env : Env} {s : Nat} {v : PV} : ∀ {keep : List Nat},look (restrict keep env) s = some v → look env s = some v
 | [],h => by simp [restrict,look] at h
 | k :: r,h => by
  simp only [restrict] at h
  split at h
  ·rename_i u hu
   simp only [look] at h
   split at h
   ·rename_i hks; subst hks; rw [hu,h]
   ·exact look_restrict h
  ·exact look_restrict h
theorem ENV.restrict {n : Nat} {κ : Kn} {env : Env} {tmps : Array Value} (h : ENV κ n env tmps) (keep : List Nat) : ENV κ n (Ev.restrict keep env) tmps :=
 ⟨fun s v hs => h.rel s v (look_restrict hs),fun s v hs => h.wf s v (look_restrict hs),fun s v hs => h.lt s v (look_restrict hs)⟩
theorem put_size (a : Act) (dst : Option Nat) (x : Value) : (a.put dst x).tmps.size = a.tmps.size := by cases dst <;> simp [Act.put]
theorem put_defers (a : Act) (dst : Option Nat) (x : Value) : (a.put dst x).defers = a.defers := by cases dst <;> simp [Act.put]
theorem INV.drew {bars : List Nat} {κ : Kn} {σ : Sto} {w : World} (h : INV bars κ σ w) (d : Nat) : INV bars κ σ { w with drawn := d } :=
 ⟨fun i ob hs => by
  have := h.obs i ob hs
  cases ob <;> exact this,h.inj,h.mem,h.cap,h.wf,h.wfb⟩
def FW (ro : Option Nat) : Fence := { fn := fun _ => True,depth := none,alive := false,round := ro }
theorem callsIn_FW {ro : Option Nat} {n : Nat} {P : Program} {f : FuncId} {args : Array Value} {w : World} {R : Ending → World → Prop} (h : Calls P f args w R) : CallsIn (FW ro) n P f args w R :=
 (callsIn_wide (n := n)).2 h
theorem calls_FW {ro : Option Nat} {n : Nat} {P : Program} {f : FuncId} {args : Array Value} {w : World} {R : Ending → World → Prop} (h : CallsIn (FW ro) n P f args w R) : Calls P f args w R :=
 (callsIn_wide (n := n)).1 h
def mark (D : Nat) : Deferred := { target := .collected D,args := #[] }
structure Marks (κ : Kn) (σ : Sto) (w0 w : World) (Ds : List Nat) : Prop where
 nd : Ds.Nodup
 ge : ∀ D ∈ Ds,w0.heap.size ≤ D
 at_ : ∀ D ∈ Ds,w.heap[D]? = some (.deferred (some []))
 no : ∀ D ∈ Ds,∀ i,own κ σ i ≠ some D
def Dfr (κ : Kn) (σ : Sto) (w0 w : World) (l l' : List Deferred) : Prop := ∃ Ds : List Nat,l' = Ds.map mark ++ l ∧ Marks κ σ w0 w Ds
theorem Dfr.of_eq {κ : Kn} {σ : Sto} {w0 w : World} {l l' : List Deferred} (h : l' = l) : Dfr κ σ w0 w l l' :=
 ⟨[],by simpa using h,⟨List.nodup_nil,by simp,by simp,by simp⟩⟩
theorem Dfr.refl {κ : Kn} {σ : Sto} {w0 w : World} {l : List Deferred} : Dfr κ σ w0 w l l := .of_eq rfl
theorem Dfr.sto {κ : Kn} {σ σ' : Sto} {w0 w : World} {l l' : List Deferred} (h : Dfr κ σ w0 w l l') (hs : ∀ i b,own κ σ' i = some b → own κ σ i = some b) : Dfr κ σ' w0 w l l' := by
 obtain ⟨Ds,h1,h2⟩ := h
 exact ⟨Ds,h1,h2.nd,h2.ge,h2.at_,fun D hD i hi => h2.no D hD i (hs i D hi)⟩
theorem Dfr.trans {κ κ' : Kn} {σ σ' : Sto} {n : Nat} {w0 w w' : World} {l l1 l2 : List Deferred} (h : Dfr κ σ w0 w l l1) (hk : Kept n κ σ w κ' σ' w') (hs : w0.heap.size ≤ w.heap.size) (h' : Dfr κ' σ' w w' l1 l2) : Dfr κ' σ' w0 w' l l2 := by
 obtain ⟨Ds,rfl,h1⟩ := h
 obtain ⟨Es,rfl,h2⟩ := h'
 have hlt : ∀ D ∈ Ds,D < w.heap.size := fun D hD => (Array.getElem?_eq_some_iff.1 (h1.at_ D hD)).1
 refine ⟨Es ++ Ds,by simp,⟨?_,fun D hD => ?_,fun D hD => ?_,fun D hD i hi => ?_⟩⟩
 ·rw [List.nodup_append]
  exact ⟨h2.nd,h1.nd,fun a ha b hb e => by subst e; have := h2.ge a ha; have := hlt a hb; omega⟩
 ·simp only [List.mem_append] at hD
  rcases hD with hD | hD
  ·exact Nat.le_trans hs (h2.ge D hD)
  ·exact h1.ge D hD
 ·simp only [List.mem_append] at hD
  rcases hD with hD | hD
  ·exact h2.at_ D hD
  ·rw [hk.keep D (hlt D hD) (h1.no D hD)]; exact h1.at_ D hD
 ·simp only [List.mem_append] at hD
  rcases hD with hD | hD
  ·exact h2.no D hD i hi
  ·rcases hk.own i D hi with ⟨j,hj⟩ | hge
   ·exact h1.no D hD j hj
   ·have := hlt D hD; omega
structure Post (bars : List Nat) (κ : Kn) (σ : Sto) (w : World) (a : Act) (r : Ex × Env × Sto) (e : Exit) (a' : Act) (w' : World) (κ' : Kn) : Prop where
 inv : INV bars κ' r.2.2 w'
 kept : Kept σ.length κ σ w κ' r.2.2 w'
 len : σ.length ≤ r.2.2.length
 size : a'.tmps.size = a.tmps.size
 defers : Dfr κ' r.2.2 w w' a.defers a'.defers
 ex : match r.1 with
  | .norm => e = .normal ∧ ENV κ' r.2.2.length r.2.1 a'.tmps
  | .exit id => e = .exit id ∧ ENV κ' r.2.2.length r.2.1 a'.tmps
  | .ret => e = .ret ∧ ENV κ' r.2.2.length r.2.1 a'.tmps
  | .pan v => ∃ x,e = .panic [{ v := x,recovered := false }] ∧ RelV κ' v x ∧ below r.2.2.length v = true ∧ ENV κ' r.2.2.length r.2.1 a'.tmps
theorem Post.trans {bars : List Nat} {κ κ1 κ2 : Kn} {σ σ1 : Sto} {w w1 w2 : World} {a a1 a2 : Act} {r : Ex × Env × Sto} {e : Exit} (hk : Kept σ.length κ σ w κ1 σ1 w1) (hl : σ.length ≤ σ1.length) (hs : a1.tmps.size = a.tmps.size) (hd : Dfr κ1 σ1 w w1 a.defers a1.defers) (h : Post bars κ1 σ1 w1 a1 r e a2 w2 κ2) : Post bars κ σ w a r e a2 w2 κ2 :=
 ⟨h.inv,hk.trans h.kept hl,Nat.le_trans hl h.len,h.size.trans hs,hd.trans h.kept hk.size h.defers,h.ex⟩
def CallPost (bars : List Nat) (κ : Kn) (σ : Sto) (w : World) (r : Out × Sto) (e : Ending) (w' : World) : Prop :=
 ∃ κ',INV bars κ' r.2 w' ∧ Kept σ.length κ σ w κ' r.2 w' ∧ σ.length ≤ r.2.length ∧ match r.1 with
  | .ret v => ∃ x,e = .returned x ∧ RelV κ' v x ∧ below r.2.length v = true
  | .pan v => ∃ x,e = .panicked [{ v := x,recovered := false }] ∧ RelV κ' v x ∧ below r.2.length v = true
def RoundOK (P : Program) (l : Nat) (xs : Array Value) (w : World) (R : Ending → World → Prop) : Prop :=
 ∃ r : Loop,w.heap[l]? = some (.loop r) ∧ xs.size = r.params.size ∧ RoundIn Fence.wide 0 P l r.fn ((r.params.zip xs).foldl (fun t (p,v) => t.setIfInBounds p v) r.tmps) r.assign r.body w R
def CallsX (P : Program) (κ : Kn) (f : FuncId) (xs : Array Value) (w : World) (R : Ending → World → Prop) : Prop :=
 (f < YB → Calls P f xs w R) ∧ ∀ l,f = YB + l → κ.gen l = 1 ∧ RoundOK P (κ.ρ l).1 xs w R
def CallsOK (P : Program) (calls : Sem') : Prop := ∀ bars f args σ r,calls bars f args σ = some r → (f < YB → callable P f) ∧
 ∀ κ w (xs : Array Value),INV bars κ σ w → RelL κ args xs.toList → below.belowAll σ.length args = true → CallsX P κ f xs w (CallPost bars κ σ w r)
def chkG (ops : Array Oper) : Option (Nat × Bool) → Option (Nat × Bool) → Bool
 | none,none => true
 | some (s,b),some (j,c) => b == c && (match (ops[j]?).bind (·.dst) with | some d => d == s | none => false)
 | _,_ => false
def chkD (nt : Nat) : Option Nat → Option Nat → Bool
 | none,none => true
 | some d,some e => d == e && decide (d < nt)
 | _,_ => false
def chkOper (P : Program) (nt : Nat) (ops : Array Oper) (x : IOper) (o : Oper) : Bool := chkD nt x.dst o.dst && chkG ops x.guard o.guard && chkOp P x.op o.op
def chkOps (P : Program) (nt : Nat) (ops : Array Oper) : List Nat → List IOper → Bool
 | [],[] => true
 | k :: l,x :: xs => (match ops[k]? with | some o => chkOper P nt ops x o | none => false) && chkOps P nt ops l xs
 | _,_ => false
section
variable {P : Program} {bars : List Nat} {nt : Nat}
theorem chkD_spec {d d' : Option Nat} (h : chkD nt d d' = true) : d' = d ∧ ∀ e,d = some e → e < nt := by
 cases d <;> cases d' <;> simp [chkD] at h ⊢
 obtain ⟨rfl,h⟩ := h
 exact ⟨rfl,h⟩
theorem wanted_spec {ops : Array Oper} {x : IOper} {o : Oper} {env : Env} {κ : Kn} {n : Nat} {a : Act} (he : ENV κ n env a.tmps) (hg : chkG ops x.guard o.guard = true) {b : Bool} (hw : wantedE env x.guard = some b) : Region.wanted o (yielded ops a.tmps) = b := by
 unfold Region.wanted
 cases hx : x.guard with
 | none =>
  rw [hx] at hg hw
  cases ho : o.guard with
  | none => simp [wantedE] at hw; subst hw; rfl
  | some p => rw [ho] at hg; simp [chkG] at hg
 | some p =>
  obtain ⟨s,c⟩ := p
  rw [hx] at hg hw
  cases ho : o.guard with
  | none => rw [ho] at hg; simp [chkG] at hg
  | some q =>
   obtain ⟨j,c'⟩ := q
   rw [ho] at hg
   simp only [chkG,Bool.and_eq_true,beq_iff_eq] at hg
   obtain ⟨rfl,hd⟩ := hg
   split at hd
   ·rename_i d hd'
    simp only [beq_iff_eq] at hd
    subst hd
    simp only [wantedE] at hw
    split at hw
    ·rename_i b' hl
     have h1 := he.rel _ _ hl
     have h2 := he.lt _ _ hl
     simp only [RelV] at h1
     cases hw
     have h3 : a.tmps[d]? = some (.bool b') := by
      rw [Array.getD_eq_getD_getElem?,Array.getElem?_eq_getElem h2] at h1
      rw [Array.getElem?_eq_getElem h2]; simpa using h1
     simp only [yielded,hd',Option.bind_some,h3]
     cases c <;> cases b' <;> rfl
    ·rename_i hl
     have h1 := he.rel _ _ hl
     have h2 := he.lt _ _ hl
     simp only [RelV] at h1
     obtain ⟨vs,h1,-⟩ := h1
     cases hw
     have h3 : a.tmps[d]? = some (.tuple vs) := by
      rw [Array.getD_eq_getD_getElem?,Array.getElem?_eq_getElem h2] at h1
      rw [Array.getElem?_eq_getElem h2]; simpa using h1
     simp only [yielded,hd',Option.bind_some,h3]
     rfl
    ·cases hw
   ·cases hd
def Nxt (K : Act → World → Prop) (Q : Exit → Act → World → Prop) : Exit → Act → World → Prop
 | .normal,a,w => K a w
 | e,a,w => Q e a w
theorem put_getD (a : Act) {dst : Option Nat} {x : Value} {s : Nat} (h : dst ≠ some s) : (a.put dst x).tmps.getD s undef = a.tmps.getD s undef := by
 cases dst with
 | none => rfl
 | some d =>
  have hne : d ≠ s := fun e => h (by rw [e])
  simp only [Act.put]
  rw [Array.getD_eq_getD_getElem?,Array.getD_eq_getD_getElem?,Array.getElem?_setIfInBounds_ne hne]
theorem chkOp_defer {x : IOp} {op : Op} (h : chkOp P x op = true) : ∀ c,op ≠ .defer c := by
 rintro c rfl
 unfold chkOp at h
 split at h <;> first | (cases h; done) | (rename_i h'; cases h')
theorem upon_call {ro : Option Nat} {o : Oper} {a : Act} {next : Act → World → Prop} {Q : Exit → Act → World → Prop} {κ : Kn} {σ : Sto} {w : World} {res : Result Next} {f : FuncId} {xs : Array Value} {R : Ending → World → Prop}
  (hg : Goes κ σ w res f xs) (hc : CallsX P κ f xs w R) (hR : ∀ e w',R e w' → match e with
   | .returned v => next (a.put o.dst v) w'
   | .panicked chain => Q (.panic chain) a w'
   | .outgrown => LetsOut Q) : o.uponIn (FW ro) 0 P a next Q res := by
 rcases hg with ⟨hlt,rfl⟩ | ⟨l,b,rfl,hl,hb,hres⟩
 ·refine ⟨fun h => by simp [FW] at h,callsIn_FW ((hc.1 hlt).mono fun e w' he => ?_)⟩
  have := hR e w' he
  cases e <;> exact this
 ·obtain ⟨h1,r,h2,h3,h4⟩ := hc.2 l rfl
  rw [← hb h1] at h2 h4
  rw [hres r h2 h3]
  refine ⟨fun h => by simp [FW] at h,RoundIn.mono (F := FW ro) h4 fun e w' he => ?_⟩
  have := hR e w' he
  cases e <;> exact this
theorem op_step {ro : Option Nat} {calls : Sem'} (hcalls : CallsOK P calls) {ops : Array Oper} {k : Nat} {x : IOper} {o : Oper} (ho : ops[k]? = some o) (hx : chkOper P nt ops x o = true) {Q : Exit → Act → World → Prop} {K : Act → World → Prop} {env : Env} {σ : Sto} {r : Ex × Env × Sto} {κ : Kn} {a : Act} {w : World}
  (hi : INV bars κ σ w) (he : ENV κ σ.length env a.tmps) (hs : a.tmps.size = nt) (hr : evOp1 calls bars x env σ = some r) (hQ : ∀ e a' w' κ',Post bars κ σ w a r e a' w' κ' → (∀ s,x.dst ≠ some s → a'.tmps.getD s undef = a.tmps.getD s undef) → a'.defers = a.defers → Nxt K Q e a' w') : wpOpIn (FW ro) 0 P ops Q k K a w := by
 simp only [chkOper,Bool.and_eq_true] at hx
 obtain ⟨⟨hd,hg⟩,hop⟩ := hx
 obtain ⟨hd1,hd2⟩ := chkD_spec hd
 have hlt : ∀ d,o.dst = some d → d < a.tmps.size := fun d h => by rw [hs]; rw [hd1] at h; exact hd2 d h
 have hsem : o.semAt (FW ro).round a.eval = execOp a.eval o := Oper.semAt_eq _ _ _ (chkOp_defer hop)
 unfold wpOpIn
 simp only [ho]
 unfold evOp1 at hr
 rw [← hd1] at hr
 split at hr
 ·rename_i hw
  rw [if_pos (wanted_spec he hg hw)]
  refine ⟨fun _ _ => trivial,?_⟩
  rw [hsem]
  split at hr
  ·rename_i v σ' hv
   cases hr
   obtain ⟨κ',w',y,hres,h1,h2,h3,h4,h5⟩ := chkOp_sound hop hi he hv (by simp)
   have hn := hQ .normal (a.put o.dst y) w' κ' ⟨h3,h4,h5,put_size _ _ _,.of_eq (put_defers _ _ _),rfl,ENV.put (he.mono h4.ext h5) hlt h1 h2⟩ (fun s hs => put_getD a (by rw [hd1]; exact hs)) (put_defers _ _ _)
   rcases hres with hres | ⟨hres,rfl⟩
   ·rw [hres]; exact hn
   ·rw [hres]; exact hn
  ·rename_i f args σ' hv
   split at hr
   ·rename_i v σ'' hcl
    split at hr
    ·cases hr
    ·cases hr
     obtain ⟨hca,hok⟩ := hcalls _ _ _ _ _ hcl
     obtain ⟨rfl,ys,hres,h1,h2⟩ := chkOp_sound hop hi he hv (fun f' xs' σ1 h => by cases h; exact hca)
     refine upon_call hres (hok κ w ys hi h1 h2) fun e w' hp => ?_
     obtain ⟨κ',h3,h4,h5,y,rfl,h6,h7⟩ := hp
     simp only at h3 h4 h5 h6 h7
     have h5' : σ'.length ≤ σ''.length := by omega
     exact hQ .normal (a.put o.dst y) w' κ' ⟨h3,h4,h5',put_size _ _ _,.of_eq (put_defers _ _ _),rfl,ENV.put (he.mono h4.ext h5') hlt h6 h7⟩ (fun s hs => put_getD a (by rw [hd1]; exact hs)) (put_defers _ _ _)
   ·rename_i v σ'' hcl
    cases hr
    obtain ⟨hca,hok⟩ := hcalls _ _ _ _ _ hcl
    obtain ⟨rfl,ys,hres,h1,h2⟩ := chkOp_sound hop hi he hv (fun f' xs' σ1 h => by cases h; exact hca)
    refine upon_call hres (hok κ w ys hi h1 h2) fun e w' hp => ?_
    obtain ⟨κ',h3,h4,h5,y,rfl,h6,h7⟩ := hp
    simp only at h3 h4 h5 h6 h7
    exact hQ (.panic [{ v := y,recovered := false }]) _ _ κ' ⟨h3,h4,by simp only; omega,rfl,.refl,y,rfl,h6,h7,he.mono h4.ext (by simp only; omega)⟩ (fun _ _ => rfl) rfl
   ·cases hr
  ·rename_i v σ' hv
   cases hr
   obtain ⟨rfl,y,hres,h1,h2⟩ := chkOp_sound hop hi he hv (by simp)
   rw [hres]
   exact hQ (.panic [{ v := y,recovered := false }]) _ _ κ ⟨hi,Kept.refl _ _ _ _,Nat.le_refl _,rfl,.refl,y,rfl,h1,h2,he⟩ (fun _ _ => rfl) rfl
  ·cases hr
 ·rename_i hw
  cases hr
  rw [if_neg (by rw [wanted_spec he hg hw]; simp)]
  exact ⟨fun _ _ => trivial,hQ .normal (a.put o.dst undef) w κ ⟨hi,Kept.refl _ _ _ _,Nat.le_refl _,put_size _ _ _,.of_eq (put_defers _ _ _),rfl,ENV.put he hlt (relV_undef κ) rfl⟩ (fun s hs => put_getD a (by rw [hd1]; exact hs)) (put_defers _ _ _)⟩
 ·cases hr
theorem evOp1_ex {calls : Sem'} {x : IOper} {env : Env} {σ : Sto} {r : Ex × Env × Sto} (h : evOp1 calls bars x env σ = some r) : r.1 = .norm ∨ ∃ v,r.1 = .pan v := by
 unfold evOp1 at h
 split at h
 ·split at h
  ·cases h; exact .inl rfl
  ·split at h
   ·split at h
    ·cases h
    ·cases h; exact .inl rfl
   ·cases h; exact .inr ⟨_,rfl⟩
   ·cases h
  ·cases h; exact .inr ⟨_,rfl⟩
  ·cases h
 ·cases h; exact .inl rfl
 ·cases h
theorem ops_sound {ro : Option Nat} {calls : Sem'} (hcalls : CallsOK P calls) {ops : Array Oper} {Q : Exit → Act → World → Prop} : ∀ (l : List Nat) (xs : List IOper),chkOps P nt ops l xs = true → ∀ {env : Env} {σ : Sto} {r : Ex × Env × Sto} {κ : Kn} {a : Act} {w : World},
  INV bars κ σ w → ENV κ σ.length env a.tmps → a.tmps.size = nt → evOps calls bars xs env σ = some r → (∀ e a' w' κ',Post bars κ σ w a r e a' w' κ' → a'.defers = a.defers → Q e a' w') → wpOpsIn (FW ro) 0 P ops Q l a w
 | [],[],_,env,σ,r,κ,a,w,hi,he,hs,hr,hQ => by
  simp only [evOps,Option.some.injEq] at hr
  subst hr
  exact hQ .normal a w κ ⟨hi,Kept.refl _ _ _ _,Nat.le_refl _,rfl,.refl,rfl,he⟩ rfl
 | [],_ :: _,hc,_,_,_,_,_,_,_,_,_,_,_ => by simp [chkOps] at hc
 | _ :: _,[],hc,_,_,_,_,_,_,_,_,_,_,_ => by simp [chkOps] at hc
 | k :: l,x :: xs,hc,env,σ,r,κ,a,w,hi,he,hs,hr,hQ => by
  simp only [chkOps,Bool.and_eq_true] at hc
  obtain ⟨hx,hrest⟩ := hc
  split at hx
  ·rename_i o ho
   rw [wpOpsIn_cons]
   simp only [evOps] at hr
   cases h1 : evOp1 calls bars x env σ with
   | none => rw [h1] at hr; cases hr
   | some r1 =>
    rw [h1] at hr
    refine op_step hcalls ho hx hi he hs h1 fun e a1 w1 κ1 hp _ hdf => ?_
    rcases evOp1_ex h1 with hn | ⟨v,hn⟩
    ·obtain ⟨e1,env1,σ1⟩ := r1
     simp only at hn
     subst hn
     obtain ⟨rfl,he1⟩ := hp.ex
     exact ops_sound hcalls l xs hrest hp.inv he1 (hp.size.trans hs) hr fun e a' w' κ' h hd => hQ e a' w' κ' (h.trans hp.kept hp.len hp.size hp.defers) (hd.trans hdf)
    ·obtain ⟨e1,env1,σ1⟩ := r1
     simp only at hn
     subst hn
     cases hr
     obtain ⟨y,rfl,hv,hb⟩ := hp.ex
     exact hQ _ _ _ κ1 hp hdf
  ·cases hx
end
end Go.Ev
