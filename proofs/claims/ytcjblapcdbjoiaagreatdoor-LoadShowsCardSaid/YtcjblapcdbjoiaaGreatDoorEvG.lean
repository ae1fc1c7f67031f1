/- Library functions that the interpreter does not step through: known beforehand, from a law of theirs over the machine. -/
import Derived.Test.YtcjblapcdbjoiaaGreatDoorEvF
import Derived.Shelf.Small.Strs
import Derived.Below
import Derived.Laws.AppendOwn
import Derived.Shelf.SlIterI.Nil
set_option linter.unnecessarySimpa false
set_option linter.unusedVariables false
set_option linter.unusedSimpArgs false
set_option linter.unusedSectionVars false
namespace Go.Ev
def indexH : List PV → Sto → Option (Out × Sto)
 | [.k (.string s),.k (.int .u8 c)],σ => some (.ret (.i (Lib.indexByte s.data.toList c.toNat.toUInt8)),σ)
 | _,_ => none
section
variable {P : Program}
theorem indexH_ok {f : FuncId} (hf : callable P f) (h : ∀ (s : ByteArray) (c : Int) (w : World),Calls P f #[.string s,.int .u8 c] w fun e w' => e = .returned (.int .i64 (Lib.indexByte s.data.toList c.toNat.toUInt8)) ∧ w' = w)
  (args : List PV) (σ : Sto) (r : Out × Sto) (hr : indexH args σ = some r) :
  callable P f ∧ ∀ bars κ w (xs : Array Value),@INV (CR P) bars κ σ w → RelL κ args xs.toList → below.belowAll σ.length args = true → Calls P f xs w (@CallPost (CR P) bars κ σ w r) := by
 letI : CodeRel := CR P
 refine ⟨hf,fun bars κ w xs hi hrel hb => ?_⟩
 unfold indexH at hr
 split at hr
 ·rename_i s c
  cases hr
  simp only [RelL,RelV] at hrel
  obtain ⟨v,l',e1,rfl,v2,l2,rfl,rfl,rfl⟩ := hrel
  have hx : xs = #[.string s,.int .u8 c] := Array.toList_inj.1 (by simpa using e1)
  rw [hx]
  refine (h s c w).mono ?_
  rintro e w' ⟨rfl,rfl⟩
  exact ⟨κ,hi,Kept.refl _ _ _ _,Nat.le_refl _,_,rfl,rfl,rfl⟩
 ·cases hr
end
end Go.Ev


namespace Go.Ev
def strH (T0 E0 : Nat) : List PV → Sto → Option (Out × Sto)
 | [.ptr id 0],σ => match σ[id]? with
  | some (.bld T u (.rs j v 0 len) _) => match σ[j]? with
   | some (.barr E v' s) => if v' = v ∧ len = s.size ∧ 0 < v ∧ 0 < s.size ∧ s.size ≤ LIM ∧ T = T0 ∧ E = E0 then some (.ret (.s s),σ.set j (.tok 1 (v + 1))) else none
   | _ => none
  | _ => none
 | _,_ => none
section
variable {P : Program}
theorem freeze_heap_other {w : World} {g b n : Nat} (h : b ≠ g) : (w.drew.freeze ⟨g,0,none⟩ n).heap[b]? = w.heap[b]? := by
 unfold World.freeze
 split
 ·rfl
 ·simp only [Array.getElem?_modify]
  rw [if_neg (by simpa using Ne.symm h)]
  rfl
theorem freeze_heap_self {w : World} {g n : Nat} {c : Array Value} {T : TypeId} (hg : w.heap[g]? = some (.cells c T (0,0))) : ∃ fr,(w.drew.freeze ⟨g,0,none⟩ n).heap[g]? = some (.cells c T fr) := by
 have hg' : w.drew.heap[g]? = some (.cells c T (0,0)) := hg
 unfold World.freeze
 split
 ·exact ⟨_,hg'⟩
 ·simp only [Array.getElem?_modify]
  simp only [if_true,hg',Option.map_some]
  exact ⟨_,rfl⟩
theorem strH_ok {T0 E0 : Nat} {f : FuncId} (hf : callable P f)
  (h : ∀ (b g cap : Nat) (p : Value) (l : List UInt8) (cur : Array Value) (w : World),w.heap[b]? = some (.cells #[p,.slice (some ⟨g,0,none⟩) l.length cap] T0 (0,0)) → w.heap[g]? = some (.cells cur E0 (0,0)) → l ≠ [] → l.length ≤ cur.size → l.length ≤ 140737488355328 → l.length ≤ cap →
   (∀ j x,l[j]? = some x → w.cell? ⟨g,j,none⟩ = some (.int .u8 x.toNat)) → Calls P f #[.pointer (some ⟨b,0,none⟩)] w fun e w' => e = .returned (.string ⟨l.toArray⟩) ∧ w' = w.drew.freeze ⟨g,0,none⟩ l.length)
  (args : List PV) (σ : Sto) (r : Out × Sto) (hr : strH T0 E0 args σ = some r) :
  callable P f ∧ ∀ bars κ w (xs : Array Value),@INV (CR P) bars κ σ w → RelL κ args xs.toList → below.belowAll σ.length args = true → Calls P f xs w (@CallPost (CR P) bars κ σ w r) := by
 letI : CodeRel := CR P
 refine ⟨hf,fun bars κ w xs hi hrel hb => ?_⟩
 unfold strH at hr
 split at hr
 ·rename_i id
  split at hr
  ·rename_i T u j v len jj hsi
   split at hr
   ·rename_i E v' s hsj
    split at hr
    ·rename_i hc
     obtain ⟨rfl,rfl,hv,hs,hlim,rfl,rfl⟩ := hc
     cases hr
     have hne : id ≠ j := by rintro rfl; rw [hsi] at hsj; cases hsj
     have hltj : j < σ.length := (List.getElem?_eq_some_iff.1 hsj).1
     obtain ⟨b1,b2,⟨vv,b3,b4,b5⟩,b6⟩ := hi.obs id _ hsi
     obtain ⟨r1,r2,-,r4⟩ := hi.obs j _ hsj
     obtain ⟨⟨c,r5,r6,r7,post,r8⟩,r9⟩ := r4 (by omega)
     obtain ⟨-,a,cap,rfl,hcap,hlk⟩ := b4
     obtain ⟨rfl,hk⟩ := hlk r1 (by omega)
     simp only [RelL,RelV] at hrel
     obtain ⟨p,l',e1,⟨q,rfl,-,hq⟩,rfl⟩ := hrel
     have hq := hq b1
     rw [b2] at hq
     subst hq
     have hx : xs = #[.pointer (some ⟨(κ.ρ id).1,0,none⟩)] := Array.toList_inj.1 (by simpa using e1)
     rw [hx]
     rw [r6] at b3 hk
     have hln : s.data.toList.length = s.size := by rw [Array.length_toList]; rfl
     have hcl : c.size = s.size + post.length := by
      have := congrArg List.length r8
      rw [List.length_append,List.length_map,Array.length_toList,hln] at this
      exact this
     refine (h (κ.ρ id).1 (κ.ρ j).1 cap _ s.data.toList c w (by rw [hln]; simpa using b3) r5 (by intro h0; rw [h0] at hln; simp at hln; omega) (by rw [hln]; omega) (by rw [hln]; unfold LIM at hlim; omega) (by rw [hln]; exact hcap) (fun jx x hjx => ?_)).mono ?_
     ·rw [cell_of_row r5]
      rw [← Array.getElem?_toList,r8,List.getElem?_append_left (by simp; exact (List.getElem?_eq_some_iff.1 hjx).1)]
      simp [hjx]
     ·rintro e w' ⟨rfl,rfl⟩
      have hown : own κ σ j = some (κ.ρ j).1 := by rw [own_eq hsj]; simp only [blkOf]; rw [if_neg (by omega)]
      have hext : Ext σ.length κ (κ.grew j (v' + 1) none) := by
       refine ⟨fun _ _ _ => rfl,fun _ _ => rfl,fun i hi' => ?_,fun i hi' hg => ?_,fun _ _ _ h => h,fun _ => Nat.le_refl _⟩
       ·simp only [Kn.grew]; split
        ·rename_i h; subst h; omega
        ·exact Nat.le_refl _
       ·simp only [Kn.grew] at hg ⊢
        split at hg
        ·rename_i h; subst h; omega
        ·rename_i h; rw [if_neg h]
      obtain ⟨fr,hfr⟩ := freeze_heap_self (n := s.data.toList.length) r5
      have hcell : ∀ b o x,κ.M b o = some x → (w.drew.freeze ⟨(κ.ρ j).1,0,none⟩ s.data.toList.length).cell? ⟨b,o,none⟩ = some x := by
       intro b o x hm
       by_cases hbj : b = (κ.ρ j).1
       ·subst hbj; rw [r9] at hm; cases hm
       ·have := hi.mem b o x hm
        simp only [World.cell?,freeze_heap_other hbj] at this ⊢
        exact this
      have hsz : (w.drew.freeze ⟨(κ.ρ j).1,0,none⟩ s.data.toList.length).heap.size = w.heap.size := by
       unfold World.freeze; split
       ·rfl
       ·exact Array.size_modify
      have hworld : ∀ n,(w.drew.freeze ⟨(κ.ρ j).1,0,none⟩ n).os = w.os ∧ (w.drew.freeze ⟨(κ.ρ j).1,0,none⟩ n).output = w.output ∧ (w.drew.freeze ⟨(κ.ρ j).1,0,none⟩ n).tape = w.tape := by
       intro n; unfold World.freeze; split <;> exact ⟨rfl,rfl,rfl⟩
      obtain ⟨g1,g2⟩ := INV.one (w' := w.drew.freeze ⟨(κ.ρ j).1,0,none⟩ s.data.toList.length) (κ' := κ.grew j (v' + 1) none) (σ' := σ.set j (.tok 1 (v' + 1))) hi j (.tok 1 (v' + 1)) (by omega) (by simp; omega) (sto_set_get hltj) (fun i hi' => sto_set_other hi') hext
       (fun i _ hi' => by simp only [Kn.grew,if_neg hi']) (by rw [hsz]; exact Nat.le_refl _) (fun b _ hno => freeze_heap_other (fun e => hno (by rw [hown,e]))) (fun _ _ _ _ => rfl)
       ⟨by simp [Kn.grew],r2,fun b e f h => by simp [Kn.grew] at h⟩ (fun b hb => by simp [blkOf,Kn.grew] at hb) hcell
       (fun b hb => by
        obtain ⟨d,T',fr',hd,hsz'⟩ := hi.cap b hb
        by_cases hbj : b = (κ.ρ j).1
        ·subst hbj
         rw [r5] at hd; cases hd
         exact ⟨c,_,fr,hfr,hsz'⟩
        ·exact ⟨d,T',fr',by rw [freeze_heap_other hbj]; exact hd,hsz'⟩)
       rfl (fun _ _ _ => rfl) (hworld _).1 (hworld _).2.1 (hworld _).2.2
      exact ⟨_,g1,g2,by simp,_,rfl,rfl,rfl⟩
    ·cases hr
   ·cases hr
  ·cases hr
 ·cases hr
end
end Go.Ev


namespace Go.Ev
variable [CodeRel]
section
variable {P : Program} {bars : List Nat} {κ : Kn} {σ : Sto} {w : World}
theorem byteCells_append (s0 s : ByteArray) : byteCells (s0 ++ s) = byteCells s0 ++ byteCells s := by
 simp [byteCells,ByteArray.append_eq]
theorem byteCells_one (s : ByteArray) : ∀ u ∈ byteCells s,u.oneCell' = true := by
 intro u hu
 simp only [byteCells,List.mem_map] at hu
 obtain ⟨b,-,rfl⟩ := hu
 rfl
theorem barr_grow (hi : INV bars κ σ w) {E v j : Nat} {s0 s : ByteArray} (hsj : σ[j]? = some (.barr E v s0)) {t tx : TypeId} {i : TypeInfo} {z : Value} (ht : P.underlying t = some (.slice E)) (htx : P.underlying tx = some .string)
  (hei : P.info? E = some i) (hs1 : i.size = 1) (hz : i.zero = some z) (hzs : z.cells.size = 1) (hz1 : z.cells.toList.all Value.oneCell' = true) (hby : i.bytes ≤ 32768) {adx : Option Addr} {capx : Nat}
  (hcd : (Builtin.firstCells i.size s0.size (.slice adx s0.size capx)).run P w.drew = .ok (byteCells s0).toArray w.drew) (hg : capx < s0.size + s.size) (hlim : s0.size + s.size ≤ LIM) :
  ∃ w' κ' v',(Builtin.append_ #[t,tx] t #[.slice adx s0.size capx,.string s]).run P w = .ok v' w' ∧ INV bars κ' (σ.set j (.barr E (v + 1) (s0 ++ s))) w' ∧ Kept σ.length κ σ w κ' (σ.set j (.barr E (v + 1) (s0 ++ s))) w' ∧
   RelV κ' (.rs j (v + 1) 0 (s0.size + s.size)) v' ∧ (∃ a n c,v' = .slice a n c) ∧ (∀ k,k < σ.length → k ≠ j → κ'.gen k = κ.gen k) ∧ ∀ b,b < w.heap.size → w'.heap[b]? = w.heap[b]? := by
 have hltj : j < σ.length := (List.getElem?_eq_some_iff.1 hsj).1
 obtain ⟨r1,r2,-,-⟩ := hi.obs j _ hsj
 have hsrc : Src P i.size tx (.string s) s.size (byteCells s) w := by rw [hs1]; exact Src.ofString w htx s
 have hrun := run_append_grow_src (P := P) w t tx t E i z ht hei hz adx s0.size capx (byteCells s0) hcd (.string s) s.size (byteCells s) hsrc hg (by unfold LIM at hlim; omega) (growslice_fits hg (fits hlim hby))
 have hge := grownCap_ge w (s0.size + s.size) capx E
 generalize hG : grownCap w (s0.size + s.size) capx E = G at hge hrun
 rw [← byteCells_append] at hrun
 have hal : (byteCells (s0 ++ s)).length = s0.size + s.size := by rw [byteCells_append,List.length_append,byteCells_length,byteCells_length]
 generalize hrow : (byteCells (s0 ++ s)).toArray ++ Builtin.zeroCells z.cells (G - (s0.size + s.size)) = row at hrun
 have hrs : row.size = G := by
  rw [← hrow,Array.size_append,size_zeroCells,hzs]
  simp only [List.size_toArray,hal]
  omega
 have hrow1 : ∀ v ∈ row.toList,v.oneCell' = true := by
  intro v hv
  rw [← hrow,Array.toList_append,List.mem_append] at hv
  rcases hv with hv | hv
  ·exact byteCells_one _ v (by simpa using hv)
  ·exact zero_one _ (by omega) hz1 v hv
 have hcf := hi.cap_fresh
 let κ' : Kn := { (κ.grew j (v + 1) (κ.tok j)) with ρ := fun k => if k = j then (w.heap.size,0) else κ.ρ k,cap := fun b => if b = w.heap.size then row.size else κ.cap b }
 have hext : Ext σ.length κ κ' := by
  refine ⟨fun k hk hg' => ?_,fun _ _ => rfl,fun k hk => ?_,fun k hk hg' => ?_,fun _ _ _ h => h,fun b => ?_⟩
  ·simp only [κ',Kn.grew] at hg' ⊢
   split at hg'
   ·rename_i h; subst h; omega
   ·rename_i h; rw [if_neg h]
  ·simp only [κ',Kn.grew]; split
   ·rename_i h; subst h; omega
   ·exact Nat.le_refl _
  ·simp only [κ',Kn.grew]; split
   ·rename_i h; subst h; rfl
   ·rfl
  ·simp only [κ']; split
   ·rename_i h; subst h; omega
   ·exact Nat.le_refl _
 have hcell : ∀ b o x,κ.M b o = some x → (w.drew.alloc (.cells row E)).cell? ⟨b,o,none⟩ = some x := by
  intro b o x hm
  have hlt := cell_lt (hi.mem b o x hm)
  have := hi.mem b o x hm
  simp only [World.cell?,alloc_heap,heap_push_lt hlt] at this ⊢
  exact this
 obtain ⟨g1,g2⟩ := INV.one (w' := w.drew.alloc (.cells row E)) (κ' := κ') (σ' := σ.set j (.barr E (v + 1) (s0 ++ s))) hi j (.barr E (v + 1) (s0 ++ s)) (by omega) (by simp; omega) (sto_set_get hltj) (fun k hk => sto_set_other hk) hext
  (fun k _ hk => by simp only [κ',Kn.grew,if_neg hk]) (by simp [alloc_heap]) (fun b hb _ => by rw [alloc_heap]; exact heap_push_lt hb) (fun _ _ _ _ => rfl)
  (by
   refine ⟨by simp [κ',Kn.grew],r2,fun h => by omega,fun _ => ⟨⟨row,by simp [alloc_heap,κ'],by simp [κ'],hrow1,(Builtin.zeroCells z.cells (G - (s0.size + s.size))).toList,?_⟩,fun o => ?_⟩⟩
   ·rw [← hrow]; simp [byteCells]
   ·simp only [κ',if_true]; exact hi.M_fresh (Nat.le_refl _) o)
  (fun b hb => by
   simp [blkOf,κ'] at hb
   exact .inr (by omega))
  (fun b o x hm => hcell b o x hm)
  (fun b hb => by
   simp only [κ'] at hb ⊢
   split at hb
   ·rename_i h; subst h
    exact ⟨row,E,(0,0),by simp [alloc_heap],by simp⟩
   ·rename_i h
    rw [if_neg h]
    obtain ⟨c,T,fr,hc,hsz⟩ := hi.cap b hb
    exact ⟨c,T,fr,by rw [alloc_heap,heap_push_lt (Array.getElem?_eq_some_iff.1 hc).1]; exact hc,hsz⟩)
  rfl (fun _ _ _ => rfl) rfl rfl rfl
 refine ⟨_,κ',_,hrun,g1,g2,⟨by simp [κ',Kn.grew],_,G,rfl,hge,fun _ hcp => ?_⟩,⟨_,_,_,rfl⟩,fun k _ hk => by simp only [κ',Kn.grew,if_neg hk],fun b hb => by rw [alloc_heap]; exact heap_push_lt hb⟩
 simp only [κ',if_true,Nat.zero_mul,Nat.add_zero,Nat.zero_add]
 refine ⟨trivial,?_⟩
 simp only [Kn.grew,r2,hrs]; omega
theorem barr_room (hi : INV bars κ σ w) {E v j : Nat} {s0 s : ByteArray} (hv0 : v ≠ 0) (hsj : σ[j]? = some (.barr E v s0)) {t tx : TypeId} {i : TypeInfo} (ht : P.underlying t = some (.slice E)) (htx : P.underlying tx = some .string)
  (hei : P.info? E = some i) (hs1 : i.size = 1) {adx : Option Addr} {capx : Nat} (hx : RelV κ (.rs j v 0 s0.size) (.slice adx s0.size capx)) (hs0 : 0 < s.size) (hroom : s0.size + s.size ≤ capx) :
  ∃ w' κ' v',(Builtin.append_ #[t,tx] t #[.slice adx s0.size capx,.string s]).run P w = .ok v' w' ∧ INV bars κ' (σ.set j (.barr E (v + 1) (s0 ++ s))) w' ∧ Kept σ.length κ σ w κ' (σ.set j (.barr E (v + 1) (s0 ++ s))) w' ∧
   RelV κ' (.rs j (v + 1) 0 (s0.size + s.size)) v' ∧ (∃ a n c,v' = .slice a n c) ∧ (∀ k,k < σ.length → k ≠ j → κ'.gen k = κ.gen k) ∧ ∀ b,b < w.heap.size → own κ σ j ≠ some b → w'.heap[b]? = w.heap[b]? := by
 have hltj : j < σ.length := (List.getElem?_eq_some_iff.1 hsj).1
 obtain ⟨r1,r2,-,r4⟩ := hi.obs j _ hsj
 obtain ⟨⟨c,hc,ho2,hone',post,hcl⟩,hMn⟩ := r4 hv0
 obtain ⟨-,a,cap,hxe,hcap,hlk⟩ := hx
 cases hxe
 obtain ⟨rfl,hcp⟩ := hlk r1 (by omega)
 simp only [Nat.zero_mul,Nat.add_zero,Nat.zero_add,ho2,r2,Nat.mul_one] at hcp
 rw [ho2]
 simp only [Nat.zero_mul,Nat.add_zero]
 obtain ⟨d,T',fr,hd,hds⟩ := hi.cap (κ.ρ j).1 (by omega)
 rw [hc] at hd; cases hd
 have hsrc : Src P i.size tx (.string s) s.size (byteCells s) w := by rw [hs1]; exact Src.ofString w htx s
 have hnl : (byteCells s).length = s.size := byteCells_length s
 have hl0 : (s0.data.toList.map fun b => Value.int .u8 b.toNat).length = s0.size := byteCells_length s0
 have hrun := run_append_room_src (P := P) w t tx t E i ht hei (κ.ρ j).1 0 s0.size capx (.string s) s.size (byteCells s) hsrc hroom (fun k hk => by rw [cell_of_row hc,hs1]; rw [hnl] at hk; simp; omega) (fun k hk => frozen_of_row w _ _ c E hc)
 rw [hs1,Nat.mul_one,Nat.zero_add,setCells_row hc (by omega) (byteCells_one s)] at hrun
 generalize hc' : (c.toList.take s0.size ++ byteCells s ++ c.toList.drop (s0.size + (byteCells s).length)).toArray = c' at hrun
 have hcs' : c'.size = c.size := by rw [← hc']; simp; omega
 have hrowb : (w.setRow (κ.ρ j).1 c').heap[(κ.ρ j).1]? = some (.cells c' E (0,0)) := setRow_heap _ _ _ _ _ _ hc
 have hown : own κ σ j = some (κ.ρ j).1 := by rw [own_eq hsj]; simp only [blkOf]; rw [if_neg hv0]
 have htk : c.toList.take s0.size = byteCells s0 := by
  rw [hcl,List.take_append_of_le_length (by omega),List.take_of_length_le (by omega)]; rfl
 let κ' : Kn := κ.grew j (v + 1) (κ.tok j)
 have hext : Ext σ.length κ κ' := by
  refine ⟨fun _ _ _ => rfl,fun _ _ => rfl,fun k hk => ?_,fun k hk hg' => ?_,fun _ _ _ h => h,fun _ => Nat.le_refl _⟩
  ·simp only [κ',Kn.grew]; split
   ·rename_i h; subst h; omega
   ·exact Nat.le_refl _
  ·simp only [κ',Kn.grew]; split
   ·rename_i h; subst h; rfl
   ·rfl
 obtain ⟨g1,g2⟩ := INV.one (w' := w.setRow (κ.ρ j).1 c') (κ' := κ') (σ' := σ.set j (.barr E (v + 1) (s0 ++ s))) hi j (.barr E (v + 1) (s0 ++ s)) (by omega) (by simp; omega) (sto_set_get hltj) (fun k hk => sto_set_other hk) hext
  (fun k _ hk => by simp only [κ',Kn.grew,if_neg hk]) (by rw [setRow_size]; exact Nat.le_refl _) (fun b hb hno => setRow_other _ _ _ _ (fun e => hno (by rw [hown,e]))) (fun _ _ _ _ => rfl)
  (by
   refine ⟨by simp [κ',Kn.grew],r2,fun h => by omega,fun _ => ⟨⟨c',hrowb,ho2,fun u hu => ?_,c.toList.drop (s0.size + (byteCells s).length),?_⟩,hMn⟩⟩
   ·rw [← hc'] at hu
    simp only [List.mem_append] at hu
    rcases hu with (hu | hu) | hu
    ·exact hone' u (List.mem_of_mem_take hu)
    ·exact byteCells_one s u hu
    ·exact hone' u (List.mem_of_mem_drop hu)
   ·rw [← hc',htk,← byteCells_append]; rfl)
  (fun b hb => by
   simp [blkOf,κ',Kn.grew] at hb
   exact .inl (by rw [hown,hb]))
  (fun b o x hm => by
   have hm : κ.M b o = some x := hm
   by_cases hbj : b = (κ.ρ j).1
   ·subst hbj; rw [hMn] at hm; cases hm
   ·rw [cell_setRow_other _ _ _ _ (by simpa using hbj)]; exact hi.mem _ _ _ hm)
  (fun b hb => by
   obtain ⟨d,T',fr,hd,hsz'⟩ := hi.cap b hb
   by_cases hbj : b = (κ.ρ j).1
   ·subst hbj
    rw [hc] at hd; cases hd
    exact ⟨c',E,(0,0),hrowb,(show κ.cap (κ.ρ j).1 ≤ c'.size by omega)⟩
   ·exact ⟨d,T',fr,by rw [setRow_other _ _ _ _ hbj]; exact hd,hsz'⟩)
  rfl (fun _ _ _ => rfl) rfl rfl rfl
 refine ⟨_,κ',_,hrun,g1,g2,⟨by simp [κ',Kn.grew],_,_,rfl,hroom,fun _ hcp' => ?_⟩,⟨_,_,_,rfl⟩,fun k _ hk => by simp only [κ',Kn.grew,if_neg hk],fun b hb hno => setRow_other _ _ _ _ (fun e => hno (by rw [hown,e]))⟩
 simp only [κ',Kn.grew,ho2,r2,Nat.zero_mul,Nat.add_zero,Nat.zero_add,Nat.mul_one]
 exact ⟨trivial,hcp⟩
end
end Go.Ev


namespace Go.Ev
variable [CodeRel]
section
variable {P : Program} {bars : List Nat} {κ : Kn} {σ : Sto} {w : World}
theorem setCell_heap_other {w : World} {b b' k : Nat} {v : Value} (h : b' ≠ b) : (w.setCell ⟨b,k,none⟩ v).heap[b']? = w.heap[b']? := by
 unfold World.setCell
 simp only [Array.getElem?_modify]
 rw [if_neg (by simpa using Ne.symm h)]
theorem bld_set (hi : INV bars κ σ w) {id T : Nat} {u u' : Bool} {x x' : PV} {jj : Nat} (hsi : σ[id]? = some (.bld T u x jj)) {w' : World} {v' : Value}
  (hsz : w'.heap.size = w.heap.size) (hoth : ∀ b,b ≠ (κ.ρ id).1 → w'.heap[b]? = w.heap[b]?) (hos : w'.os = w.os) (hout : w'.output = w.output) (htape : w'.tape = w.tape)
  (hb : w'.heap[(κ.ρ id).1]? = some (.cells #[if u' then .pointer (some ⟨(κ.ρ id).1,0,none⟩) else .pointer none,v'] T (0,0))) (hrel : RelV κ x' v') (hone : v'.oneCell' = true)
  (hx : x' = .sl true [] ∨ ∃ v len,x' = .rs jj v 0 len) : INV bars κ (σ.set id (.bld T u' x' jj)) w' ∧ Kept σ.length κ σ w κ (σ.set id (.bld T u' x' jj)) w' := by
 have hlt : id < σ.length := (List.getElem?_eq_some_iff.1 hsi).1
 obtain ⟨b1,b2,⟨vv,b3,b4,b5⟩,b6⟩ := hi.obs id _ hsi
 have hown : own κ σ id = some (κ.ρ id).1 := by rw [own_eq hsi]; rfl
 have hwf := hi.wf id _ hsi
 have hbel : ∀ n,jj < n → obBelow n (.bld T u' x' jj) = true := by
  intro n hn
  simp only [obBelow,Bool.and_eq_true,decide_eq_true_eq]
  refine ⟨?_,hn⟩
  rcases hx with rfl | ⟨v,len,rfl⟩
  ·rfl
  ·simpa [below] using hn
 refine INV.one hi id (.bld T u' x' jj) (by omega) (by simp; omega) (sto_set_get hlt) (fun k hk => sto_set_other hk) (Ext.refl _ _) (fun _ _ _ => rfl) (by omega) (fun b hb' hno => hoth b (fun e => hno (by rw [hown,e]))) (fun _ _ _ _ => rfl)
  ⟨b1,b2,⟨v',hb,hrel,hone⟩,b6⟩ (fun b hb' => by cases hb'; exact .inl hown) (fun b o y hm => ?_) (fun b hc => ?_) (hbel _ ?_) (fun n hn hin => hbel n ?_) hos hout htape
 ·by_cases hbj : b = (κ.ρ id).1
  ·subst hbj; rw [b6] at hm; cases hm
  ·have := hi.mem b o y hm
   simp only [World.cell?,hoth b hbj] at this ⊢
   exact this
 ·obtain ⟨c,T',fr,hd,hs⟩ := hi.cap b hc
  by_cases hbj : b = (κ.ρ id).1
  ·subst hbj
   rw [b3] at hd; cases hd
   exact ⟨_,_,_,hb,by simpa using hs⟩
  ·exact ⟨c,T',fr,by rw [hoth b hbj]; exact hd,hs⟩
 ·simp only [obBelow,Bool.and_eq_true,decide_eq_true_eq] at hwf
  simpa using hwf.2
 ·have := (hi.wfb n hn).2 id _ hin hsi
  simp only [obBelow,Bool.and_eq_true,decide_eq_true_eq] at this
  exact this.2
end
end Go.Ev


namespace Go.Ev
variable [CodeRel]
def wsAt (v j n : Nat) : PV → Bool
 | .sl true [] => n == 0
 | .rs j' v' off len => j' == j && v' == v && off == 0 && len == n && v != 0
 | _ => false
section
variable {P : Program} {bars : List Nat} {κ : Kn} {σ : Sto} {w : World}
theorem barr_write (hi : INV bars κ σ w) {E v j : Nat} {s0 s : ByteArray} (hsj : σ[j]? = some (.barr E v s0)) {t tx : TypeId} {i : TypeInfo} {z : Value} (ht : P.underlying t = some (.slice E)) (htx : P.underlying tx = some .string)
  (hei : P.info? E = some i) (hs1 : i.size = 1) (hz : i.zero = some z) (hzs : z.cells.size = 1) (hz1 : z.cells.toList.all Value.oneCell' = true) (hby : i.bytes ≤ 32768) {x : PV} {vv : Value} (hx : RelV κ x vv) (hat : wsAt v j s0.size x = true)
  (hs0 : 0 < s.size) (hlim : s0.size + s.size ≤ LIM) :
  ∃ w' κ' v',(Builtin.append_ #[t,tx] t #[vv,.string s]).run P w = .ok v' w' ∧ INV bars κ' (σ.set j (.barr E (v + 1) (s0 ++ s))) w' ∧ Kept σ.length κ σ w κ' (σ.set j (.barr E (v + 1) (s0 ++ s))) w' ∧
   RelV κ' (.rs j (v + 1) 0 (s0.size + s.size)) v' ∧ (∃ a n c,v' = .slice a n c) ∧ (∀ k,k < σ.length → k ≠ j → κ'.gen k = κ.gen k) ∧ ∀ b,b < w.heap.size → own κ σ j ≠ some b → w'.heap[b]? = w.heap[b]? := by
 unfold wsAt at hat
 split at hat
 ·have h0 : s0.size = 0 := by simpa using hat
  obtain ⟨a,cap,esz,rfl,hc1,hc2,-⟩ := hx
  have hcap : cap = 0 := hc2 rfl
  subst hcap
  have hb0 : byteCells s0 = [] := List.eq_nil_of_length_eq_zero (by rw [byteCells_length,h0])
  have hsrc : Src P i.size t (.slice a s0.size 0) s0.size (byteCells s0) w := src_cells ⟨_,ht⟩ (by rw [hb0,h0]; simp) (fun h => absurd h0 h) (byteCells_one _)
  obtain ⟨w',κ',v',g1,g2,g3,g4,g5,g6,g7⟩ := barr_grow hi hsj ht htx hei hs1 hz hzs hz1 hby (adx := a) (capx := 0) hsrc.cellsD (by omega) hlim
  rw [h0] at g1
  exact ⟨w',κ',v',g1,g2,g3,g4,g5,g6,fun b hb _ => g7 b hb⟩
 ·rename_i j' v' off len
  simp only [Bool.and_eq_true,beq_iff_eq,bne_iff_ne,ne_eq] at hat
  obtain ⟨⟨⟨⟨rfl,rfl⟩,rfl⟩,rfl⟩,hv0⟩ := hat
  obtain ⟨hgv,a,cap,rfl,hcap,hlk⟩ := hx
  by_cases hroom : s0.size + s.size ≤ cap
  ·exact barr_room hi hv0 hsj ht htx hei hs1 (adx := a) (capx := cap) ⟨hgv,a,cap,rfl,hcap,hlk⟩ hs0 hroom
  ·obtain ⟨r1,r2,-,r4⟩ := hi.obs _ _ hsj
   obtain ⟨⟨c,hc,ho2,hone',post,hcl⟩,hMn⟩ := r4 hv0
   have hsrc : Src P i.size t (.slice a s0.size cap) s0.size (byteCells s0) w := src_cells ⟨_,ht⟩ (by rw [byteCells_length,hs1,Nat.mul_one]) (fun hne => by
    obtain ⟨rfl,-⟩ := hlk r1 (by omega)
    refine ⟨_,rfl,fun k u hk => ?_⟩
    rw [add_plain,cell_of_row hc,ho2,← Array.getElem?_toList,hcl]
    simp only [Nat.zero_mul,Nat.add_zero,Nat.zero_add]
    rw [List.getElem?_append_left (by simpa [byteCells] using (List.getElem?_eq_some_iff.1 hk).1)]
    exact hk) (byteCells_one _)
   obtain ⟨w',κ',v'',g1,g2,g3,g4,g5,g6,g7⟩ := barr_grow hi hsj ht htx hei hs1 hz hzs hz1 hby (adx := a) (capx := cap) hsrc.cellsD (by omega) hlim
   exact ⟨w',κ',v'',g1,g2,g3,g4,g5,g6,fun b hb _ => g7 b hb⟩
 ·cases hat
end
end Go.Ev


namespace Go.Ev
def wsH (T0 E0 : Nat) : List PV → Sto → Option (Out × Sto)
 | [.ptr id 0,.k (.string s)],σ => match σ[id]? with
  | some (.bld T u x j) => match σ[j]? with
   | some (.barr E v s0) => if T = T0 ∧ E = E0 ∧ 0 < s.size ∧ s0.size + s.size ≤ LIM ∧ wsAt v j s0.size x = true then
     some (.ret (.tup [.i s.size,.k .nilIface]),((σ.set id (.bld T true x j)).set j (.barr E (v + 1) (s0 ++ s))).set id (.bld T true (.rs j (v + 1) 0 (s0.size + s.size)) j)) else none
   | _ => none
  | _ => none
 | _,_ => none
theorem wsAt_cases {v j n : Nat} {x : PV} (h : wsAt v j n x = true) : x = .sl true [] ∨ ∃ v len,x = .rs j v 0 len := by
 unfold wsAt at h
 split at h
 ·exact .inl rfl
 ·simp only [Bool.and_eq_true,beq_iff_eq] at h
  obtain ⟨⟨⟨⟨rfl,rfl⟩,rfl⟩,rfl⟩,-⟩ := h
  exact .inr ⟨_,_,rfl⟩
 ·cases h
theorem setCell_heap_self {w : World} {b k : Nat} {v : Value} {c : Array Value} {T : TypeId} (h : w.heap[b]? = some (.cells c T (0,0))) : (w.setCell ⟨b,k,none⟩ v).heap[b]? = some (.cells (c.setIfInBounds k v) T (0,0)) := by
 unfold World.setCell
 simp [Array.getElem?_modify,h]
theorem setCell_size {w : World} {b k : Nat} {v : Value} : (w.setCell ⟨b,k,none⟩ v).heap.size = w.heap.size := by
 unfold World.setCell
 exact Array.size_modify
section
variable {P : Program}
theorem wsH_ok {T0 E0 : Nat} {f fcc : FuncId} {t tx : TypeId} {i : TypeInfo} {z : Value} (hf : callable P f) (ht : P.underlying t = some (.slice E0)) (htx : P.underlying tx = some .string)
  (hei : P.info? E0 = some i) (hs1 : i.size = 1) (hz : i.zero = some z) (hzs : z.cells.size = 1) (hz1 : z.cells.toList.all Value.oneCell' = true) (hby : i.bytes ≤ 32768)
  (hfresh : ∀ (b : Nat) (w : World),w.cell? ⟨b,0,none⟩ = some (.pointer none) → w.shape? b = some (T0,2) → w.frozen? ⟨b,0,none⟩ = false → Calls P fcc #[.pointer (some ⟨b,0,none⟩)] w fun e w' => e = .returned (.tuple #[]) ∧ w' = w.setCell ⟨b,0,none⟩ (.pointer (some ⟨b,0,none⟩)))
  (hused : ∀ (b : Nat) (w : World),w.cell? ⟨b,0,none⟩ = some (.pointer (some ⟨b,0,none⟩)) → Calls P fcc #[.pointer (some ⟨b,0,none⟩)] w fun e w' => e = .returned (.tuple #[]) ∧ w' = w)
  (hws : ∀ (b : Nat) (v v' : Value) (s : ByteArray) (w w1 w2 : World),(Calls P fcc #[.pointer (some ⟨b,0,none⟩)] w fun e w' => e = .returned (.tuple #[]) ∧ w' = w1) →
   w1.heap[b]? = some (.cells #[.pointer (some ⟨b,0,none⟩),v] T0 (0,0)) → w2.heap[b]? = some (.cells #[.pointer (some ⟨b,0,none⟩),v] T0 (0,0)) → (∃ a n c,v' = .slice a n c) →
   (Builtin.append_ #[t,tx] t #[v,.string s]).run P w1 = .ok v' w2 → Calls P f #[.pointer (some ⟨b,0,none⟩),.string s] w fun e w' => e = .returned (.tuple #[.int .i64 s.size,.nilIface]) ∧ w' = w2.setCell ⟨b,1,none⟩ v')
  (args : List PV) (σ : Sto) (r : Out × Sto) (hr : wsH T0 E0 args σ = some r) :
  callable P f ∧ ∀ bars κ w (xs : Array Value),@INV (CR P) bars κ σ w → RelL κ args xs.toList → below.belowAll σ.length args = true → Calls P f xs w (@CallPost (CR P) bars κ σ w r) := by
 letI : CodeRel := CR P
 refine ⟨hf,fun bars κ w xs hi hrel hb => ?_⟩
 unfold wsH at hr
 split at hr
 ·rename_i id s
  split at hr
  ·rename_i T u x j hsi
   split at hr
   ·rename_i E v s0 hsj
    split at hr
    ·rename_i hc
     obtain ⟨rfl,rfl,hs,hlim,hat⟩ := hc
     cases hr
     have hne : id ≠ j := by rintro rfl; rw [hsi] at hsj; cases hsj
     have hlti : id < σ.length := (List.getElem?_eq_some_iff.1 hsi).1
     have hltj : j < σ.length := (List.getElem?_eq_some_iff.1 hsj).1
     obtain ⟨b1,b2,⟨vv,b3,b4,b5⟩,b6⟩ := hi.obs id _ hsi
     simp only [RelL,RelV] at hrel
     obtain ⟨p,l',e1,⟨q,rfl,-,hq⟩,p2,l2,rfl,rfl,rfl⟩ := hrel
     have hq := hq b1
     rw [b2] at hq
     subst hq
     have hx : xs = #[.pointer (some ⟨(κ.ρ id).1,0,none⟩),.string s] := Array.toList_inj.1 (by simpa using e1)
     rw [hx]
     have hA : ∃ w1,(Calls P fcc #[.pointer (some ⟨(κ.ρ id).1,0,none⟩)] w fun e w' => e = .returned (.tuple #[]) ∧ w' = w1) ∧ w1.heap[(κ.ρ id).1]? = some (.cells #[.pointer (some ⟨(κ.ρ id).1,0,none⟩),vv] T (0,0)) ∧
       w1.heap.size = w.heap.size ∧ (∀ b,b ≠ (κ.ρ id).1 → w1.heap[b]? = w.heap[b]?) ∧ w1.os = w.os ∧ w1.output = w.output ∧ w1.tape = w.tape := by
      cases u with
      | true =>
       simp only [if_true] at b3
       exact ⟨w,hused _ w (by rw [cell_of_row b3]; rfl),b3,rfl,fun _ _ => rfl,rfl,rfl,rfl⟩
      | false =>
       simp only [Bool.false_eq_true,if_false] at b3
       refine ⟨_,hfresh _ w (by rw [cell_of_row b3]; rfl) (by simp [World.shape?,b3]) (frozen_of_row w _ _ _ _ b3),?_,setCell_size,fun b hb => setCell_heap_other hb,rfl,rfl,rfl⟩
       rw [setCell_heap_self b3]; rfl
     obtain ⟨w1,hcc,a1,a2,a3,a4,a5,a6⟩ := hA
     obtain ⟨i1,k1⟩ := bld_set (u' := true) (x' := x) hi hsi a2 a3 a4 a5 a6 (by simpa using a1) b4 b5 (wsAt_cases hat)
     have hsj1 : (σ.set id (.bld T true x j))[j]? = some (.barr E v s0) := by rw [sto_set_other (Ne.symm hne)]; exact hsj
     obtain ⟨w2,κ2,v',hrun,i2,k2,hrel2,hsl,hgen,hkeep⟩ := barr_write i1 hsj1 ht htx hei hs1 hz hzs hz1 hby b4 hat hs hlim
     have hsi1 : (σ.set id (.bld T true x j))[id]? = some (.bld T true x j) := sto_set_get hlti
     have hown : own κ (σ.set id (.bld T true x j)) id = some (κ.ρ id).1 := by rw [own_eq hsi1]; rfl
     have h2b : w2.heap[(κ.ρ id).1]? = some (.cells #[.pointer (some ⟨(κ.ρ id).1,0,none⟩),vv] T (0,0)) := by
      rw [hkeep _ (Array.getElem?_eq_some_iff.1 a1).1 (fun h => hne (i1.inj _ _ _ hown h))]; exact a1
     have hlen : (σ.set id (.bld T true x j)).length = σ.length := by simp
     have hρ : κ2.ρ id = κ.ρ id := k2.ext.ρ id (by rw [hlen]; exact hlti) (hgen id (by rw [hlen]; exact hlti) hne)
     have hsi2 : ((σ.set id (.bld T true x j)).set j (.barr E (v + 1) (s0 ++ s)))[id]? = some (.bld T true x j) := by rw [sto_set_other hne]; exact hsi1
     obtain ⟨i3,k3⟩ := bld_set (u' := true) (x' := .rs j (v + 1) 0 (s0.size + s.size)) (v' := v') (w' := w2.setCell ⟨(κ.ρ id).1,1,none⟩ v') i2 hsi2 setCell_size (fun b hb => setCell_heap_other (by rw [hρ] at hb; exact hb)) rfl rfl rfl
      (by rw [hρ,setCell_heap_self h2b]; rfl) hrel2 (by obtain ⟨a,n,c,rfl⟩ := hsl; rfl) (.inr ⟨_,_,rfl⟩)
     refine (hws _ vv v' s w w1 w2 hcc a1 h2b hsl hrun).mono ?_
     rintro e w' ⟨rfl,rfl⟩
     refine ⟨κ2,i3,(k1.trans k2 (by simp)).trans k3 (by simp),by simp,_,rfl,⟨_,rfl,_,_,rfl,rfl,_,_,rfl,rfl,rfl⟩,rfl⟩
    ·cases hr
   ·cases hr
  ·cases hr
 ·cases hr
end
end Go.Ev


namespace Go.Ev
open Go.RowKit
def insI (a : Int) : List Int → List Int
 | [] => [a]
 | b :: r => if a ≤ b then a :: b :: r else b :: insI a r
def isort : List Int → List Int
 | [] => []
 | a :: r => insI a (isort r)
theorem insI_perm (a : Int) : ∀ l,(insI a l).Perm (a :: l)
 | [] => .refl _
 | b :: r => by
  unfold insI
  split
  ·exact .refl _
  ·exact ((insI_perm a r).cons b).trans (.swap a b r)
theorem isort_perm : ∀ l,(isort l).Perm l
 | [] => .refl _
 | a :: r => (insI_perm a _).trans ((isort_perm r).cons a)
theorem insI_sorted (a : Int) : ∀ l,l.Pairwise (· ≤ ·) → (insI a l).Pairwise (· ≤ ·)
 | [],_ => by simp [insI]
 | b :: r,h => by
  rw [List.pairwise_cons] at h
  unfold insI
  split
  ·rename_i hab
   refine List.pairwise_cons.2 ⟨fun c hc => ?_,List.pairwise_cons.2 h⟩
   rcases List.mem_cons.1 hc with rfl | hc
   ·exact hab
   ·exact Int.le_trans hab (h.1 c hc)
  ·rename_i hab
   refine List.pairwise_cons.2 ⟨fun c hc => ?_,insI_sorted a r h.2⟩
   rcases List.mem_cons.1 ((insI_perm a r).mem_iff.1 hc) with rfl | hc
   ·omega
   ·exact h.1 c hc
theorem isort_sorted : ∀ l,(isort l).Pairwise (· ≤ ·)
 | [] => .nil
 | a :: r => insI_sorted a _ (isort_sorted r)
theorem sorted_unique : ∀ {a b : List Int},a.Perm b → a.Pairwise (· ≤ ·) → b.Pairwise (· ≤ ·) → a = b := by
 intro a b h ha hb
 exact h.eq_of_pairwise (fun x y _ _ h1 h2 => Int.le_antisymm h1 h2) ha hb
theorem mergeSort_isort {ss ks : List Int} (h : ss.Perm ks) : (ss.mergeSort fun x y => decide (x ≤ y)) = isort ks := by
 refine sorted_unique ((List.mergeSort_perm _ _).trans (h.trans (isort_perm ks).symm)) ?_ (isort_sorted ks)
 refine (List.pairwise_mergeSort (fun a b c => ?_) (fun a b => ?_) ss).imp (by simp)
 ·simp only [decide_eq_true_eq]; exact fun h1 h2 => Int.le_trans h1 h2
 ·simp only [Bool.or_eq_true,decide_eq_true_eq]; exact Int.le_total a b
def keysI : List (Value × PV) → Option (List Int)
 | [] => some []
 | (.int .i64 n,_) :: r => (keysI r).bind fun l => some (n :: l)
 | _ => none
def fitsI (n : Int) : Bool := decide (-9223372036854775808 ≤ n ∧ n ≤ 9223372036854775807)
def nodupI : List Int → Bool
 | [] => true
 | a :: r => !(r.contains a) && nodupI r
theorem nodupI_iff : ∀ l,nodupI l = true → l.Nodup
 | [],_ => .nil
 | a :: r,h => by
  simp only [nodupI,Bool.and_eq_true,Bool.not_eq_true',List.contains_eq_mem,decide_eq_false_iff_not] at h
  exact List.nodup_cons.2 ⟨h.1,nodupI_iff r h.2⟩
def sortedH (g : FuncId) : List PV → Sto → Option (Out × Sto)
 | [.fn (.func f) [.ptr id 0]],σ => if f = g then match σ[id]? with
  | some (.var [.map j]) => match σ[j]? with
   | some (.mp m) => (keysI m).bind fun ks => if nodupI ks && ks.all fitsI && decide (ks.length ≤ LIM) then some (.ret (.sl false ((isort ks).map fun n => [.i n])),σ) else none
   | _ => none
  | _ => none
  else none
 | _,_ => none
section
variable {P : Program}
theorem INV.known [CodeRel] {bars : List Nat} {κ : Kn} {σ : Sto} {w w' : World} (hi : INV bars κ σ w) (hb : Below w.heap.size w w') (g : Nat) (hg : w.heap.size ≤ g) (f : Nat → Option Value) (hf : ∀ o v,f o = some v → w'.cell? ⟨g,o,none⟩ = some v) :
  INV bars { κ with M := fun b o => if b = g then f o else κ.M b o } σ w' ∧ Kept σ.length κ σ w { κ with M := fun b o => if b = g then f o else κ.M b o } σ w' := by
 have hne : ∀ {b : Nat},b < w.heap.size → b ≠ g := fun h e => by omega
 have hext : Ext σ.length κ { κ with M := fun b o => if b = g then f o else κ.M b o } := by
  refine ⟨fun _ _ _ => rfl,fun _ _ => rfl,fun _ _ => Nat.le_refl _,fun _ _ _ => rfl,fun b o v h => ?_,fun _ => Nat.le_refl _⟩
  have := cell_lt (hi.mem b o v h)
  simp only [if_neg (hne this)]; exact h
 refine ⟨⟨fun i ob hs => ?_,hi.inj,fun b o v h => ?_,fun b hc => ?_,hi.wf,hi.wfb⟩,⟨hext,hb.size,fun b hlt _ => hb.block b hlt,fun i b h => .inl ⟨i,h⟩,fun b o v h => ?_,hb.os,hb.output,hb.tape⟩⟩
 ·refine obRel.keep hext (List.getElem?_eq_some_iff.1 hs).1 rfl (hi.wf i ob hs) (fun b hblk => ?_) (hi.obs i ob hs)
  have hlt := own_lt hi (by rw [own_eq hs]; exact hblk)
  exact ⟨hb.block b hlt,fun o => by simp only [if_neg (hne hlt)]⟩
 ·simp only at h
  split at h
  ·rename_i he; subst he; exact hf o v h
  ·have h1 := hi.mem b o v h
   rw [← h1]
   exact hb.cell (p := ⟨b,o,none⟩) (cell_lt h1)
 ·obtain ⟨c,T,fr,hd,hsz⟩ := hi.cap b hc
  exact ⟨c,T,fr,by rw [hb.block b (Array.getElem?_eq_some_iff.1 hd).1]; exact hd,hsz⟩
 ·simp only at h
  split at h
  ·rename_i he; subst he; exact .inr (.inr hg)
  ·exact .inl h
theorem keysI_ents {κ : Kn} [CodeRel] : ∀ {m : List (Value × PV)} {l : List MapEntry} {ks : List Int},keysI m = some ks → RelEnts κ m l → l.map (·.key) = ks.map (Value.int .i64)
 | [],l,ks,h,hr => by
  simp only [keysI,Option.some.injEq] at h
  simp only [RelEnts] at hr
  subst h; subst hr; rfl
 | (k,v) :: m,l,ks,h,hr => by
  unfold keysI at h
  split at h
  ·rename_i he; cases he
  ·rename_i n v' r he
   cases he
   simp only [Option.bind_eq_some_iff,Option.some.injEq] at h
   obtain ⟨ks',h1,rfl⟩ := h
   simp only [RelEnts] at hr
   obtain ⟨e,l',rfl,hk,-,hr⟩ := hr
   simp only [List.map_cons,keysI_ents h1 hr,hk]
  ·cases h
theorem relE_ints {κ : Kn} {g : Nat} : ∀ (l : List Int) (o : Nat),(∀ j n,l[j]? = some n → κ.M g (o + j) = some (.int .i64 n)) → RelE κ 1 g o (l.map fun n => [PV.i n])
 | [],o,_ => by simp [RelE]
 | a :: r,o,h => by
  simp only [List.map_cons,RelE]
  refine ⟨rfl,?_,relE_ints r (o + 1) fun j n hj => ?_⟩
  ·simp only [RelM]
   exact ⟨⟨_,h 0 a rfl,rfl,by simp [RelV]⟩,trivial⟩
  ·have := h (j + 1) n (by simpa using hj)
   rw [show o + 1 + j = o + (j + 1) by omega]; exact this
theorem below_ints0 (n : Nat) : ∀ l : List Int,below.belowEs n (l.map fun n => [PV.i n]) = true
 | [] => rfl
 | a :: r => by simp [below.belowEs,below.belowAll,below,below_ints0 n r]
theorem sortedH_ok {f g : FuncId} (hf : callable P f)
  (h : ∀ (Bm b : Nat) (T : TypeId) (es : Array MapEntry) (clock : Nat) (ks : List Int) (w : World),w.heap[Bm]? = some (.cells #[.map (some b)] T (0,0)) → w.heap[b]? = some (.map es clock) → es.toList.map (·.key) = ks.map (Value.int .i64) → ks.Nodup → (∀ n ∈ ks,fitsI n = true) → ks.length ≤ LIM → Born es.toList clock →
   Calls P f #[.func (.func g) #[] #[.pointer (some ⟨Bm,0,none⟩)]] w fun e w' => ∃ v T',e = .returned v ∧ w'.ownsRow w.heap.size T' 1 v ks.length ((isort ks).map (Value.int .i64)) ∧ Below w.heap.size w w')
  (args : List PV) (σ : Sto) (r : Out × Sto) (hr : sortedH g args σ = some r) :
  callable P f ∧ ∀ bars κ w (xs : Array Value),@INV (CR P) bars κ σ w → RelL κ args xs.toList → below.belowAll σ.length args = true → Calls P f xs w (@CallPost (CR P) bars κ σ w r) := by
 letI : CodeRel := CR P
 refine ⟨hf,fun bars κ w xs hi hrel hb => ?_⟩
 unfold sortedH at hr
 split at hr
 ·rename_i f' id
  split at hr
  ·rename_i hfg
   subst hfg
   split at hr
   ·rename_i j hsi
    split at hr
    ·rename_i m hsj
     simp only [Option.bind_eq_some_iff] at hr
     obtain ⟨ks,hks,hr⟩ := hr
     split at hr
     ·rename_i hc
      simp only [Bool.and_eq_true,List.all_eq_true,decide_eq_true_eq] at hc
      obtain ⟨⟨hnd,hfi⟩,hlim⟩ := hc
      cases hr
      obtain ⟨v1,v2,⟨c,T,v3,v4,-⟩,-⟩ := hi.obs id _ hsi
      obtain ⟨m1,es,clock,m2,m3,m4⟩ := hi.obs j _ hsj
      simp only [RelL,RelV] at hrel v4
      obtain ⟨x,l',e1,⟨vs,rfl,y,l2,e2,⟨q,rfl,-,hq⟩,rfl⟩,rfl⟩ := hrel
      obtain ⟨z,l3,e3,⟨q',rfl,-,hq'⟩,rfl⟩ := v4
      have hq := hq v1
      rw [v2] at hq
      subst hq
      have hq' := hq' m1
      subst hq'
      have hc0 : c = #[.map (some (κ.ρ j).1)] := Array.toList_inj.1 (by simpa using e3)
      have hvs : vs = #[.pointer (some ⟨(κ.ρ id).1,0,none⟩)] := Array.toList_inj.1 (by simpa using e2)
      subst hc0
      subst hvs
      have hx : xs = #[.func (.func f') #[] #[.pointer (some ⟨(κ.ρ id).1,0,none⟩)]] := Array.toList_inj.1 (by simpa using e1)
      rw [hx]
      refine (h (κ.ρ id).1 (κ.ρ j).1 T es clock ks w v3 m2 (keysI_ents hks m3) (nodupI_iff ks hnd) hfi hlim m4).mono ?_
      rintro e w' ⟨v,T',rfl,hrow,hbel⟩
      have hlen : (isort ks).length = ks.length := (isort_perm ks).length_eq
      rcases hrow.2 with ⟨rfl,hz⟩ | ⟨gb,cap,cur,rfl,hbase,hgb,r1,r2,r3,r4⟩
      ·have h0 : isort ks = [] := List.eq_nil_of_length_eq_zero (by omega)
       obtain ⟨i1,i2⟩ := INV.known hi hbel w.heap.size (Nat.le_refl _) (fun _ => none) (fun _ _ h => by cases h)
       refine ⟨_,i1,i2,Nat.le_refl _,_,rfl,?_,?_⟩
       ·rw [h0]; simp only [RelV]; exact ⟨none,0,1,rfl,by simp,by simp,by simp⟩
       ·rw [h0]; rfl
      ·obtain ⟨i1,i2⟩ := INV.known hi hbel gb hbase (fun o => ((isort ks)[o]?).map (Value.int .i64)) (fun o v hv => by
        simp only [Option.map_eq_some_iff] at hv
        obtain ⟨n,hn,rfl⟩ := hv
        have hlt := (List.getElem?_eq_some_iff.1 hn).1
        have : cur.toList[o]? = some (.int .i64 n) := by
         have h4 := congrArg (fun l => l[o]?) r4
         simp only [List.getElem?_take,List.getElem?_map,hn] at h4
         rw [if_pos (by omega)] at h4
         exact h4
        simp only [World.cell?,hgb]
        simpa using this)
       refine ⟨_,i1,i2,Nat.le_refl _,_,rfl,?_,by simp only [below]; exact below_ints0 _ _⟩
       simp only [RelV]
       refine ⟨_,cap,1,by rw [List.length_map,hlen],by rw [List.length_map,hlen]; exact r1,by simp,fun _ => ⟨gb,0,rfl,relE_ints _ 0 fun j n hj => ?_⟩⟩
       simp [hj]
     ·cases hr
    ·cases hr
   ·cases hr
  ·cases hr
 ·cases hr
end
end Go.Ev


namespace Go.Ev
open Go.RowKit Go.Maps Go.WideElems
def RU : Value → Option (DataW Unit × List MemPlace) := fun _ => some (.nil,[])
theorem fitsI_wf {n : Int} (h : fitsI n = true) : (Lit.int .i64 n).wf = true := by
 simp only [fitsI,decide_eq_true_eq] at h
 simp [Lit.wf,IntKind.min,IntKind.max,IntKind.signed,IntKind.bits]
 omega
theorem rd_int {P : Program} {k : TypeId} (hk : P.underlying k = some (.int .i64)) {x : MapEntry} {n : Int} (hx : x.key = .int .i64 n) (hf : fitsI n = true) : rd P k RU x = some (.int .i64 n,.nil) := by
 have := fitsI_wf hf
 simp [rd,RU,keyOf,hk,mapKey,hx,this]
theorem keys_list {P : Program} {k : TypeId} (hk : P.underlying k = some (.int .i64)) : ∀ (l : List MapEntry) (ks : List Int),l.map (·.key) = ks.map (Value.int .i64) → (∀ n ∈ ks,fitsI n = true) →
  (∀ x ∈ l,∃ y,rd P k RU x = some y) ∧ (l.map (rg P k RU)).map (fun p => intOf p.1) = ks
 | [],[],_,_ => ⟨by simp,rfl⟩
 | [],_ :: _,h,_ => by simp at h
 | _ :: _,[],h,_ => by simp at h
 | x :: l,n :: ks,h,hf => by
  simp only [List.map_cons,List.cons.injEq] at h
  obtain ⟨h1,h2⟩ := keys_list hk l ks h.2 fun m hm => hf m (by simp [hm])
  have h3 := rd_int hk h.1 (hf n (by simp))
  refine ⟨fun y hy => ?_,?_⟩
  ·rcases List.mem_cons.1 hy with rfl | hy
   ·exact ⟨_,h3⟩
   ·exact h1 y hy
  ·have h4 : rg P k RU x = (.int .i64 n,.nil) := by simp only [rg,h3,Option.getD_some]
   rw [List.map_cons,List.map_cons,h2,h4]
   rfl
theorem keys_owned {P : Program} {k : TypeId} (hk : P.underlying k = some (.int .i64)) {es : Array MapEntry} {clock : Nat} {ks : List Int} (h : es.toList.map (·.key) = ks.map (Value.int .i64)) (hnd : ks.Nodup) (hf : ∀ n ∈ ks,fitsI n = true) (hl : ks.length ≤ LIM) (hb : Born es.toList clock)
  {w : World} {b : Nat} (hw : w.heap[b]? = some (.map es clock)) : ∃ D0 : DataW Unit,w.ownsMap P k RU b ks.length D0 ∧ (intKeys D0).Perm ks ∧ Maps.size D0 = ks.length := by
 obtain ⟨h1,h2⟩ := keys_list (P := P) hk es.toList ks h hf
 have hlen : es.size = ks.length := by
  have := congrArg List.length h
  simpa using this
 refine ⟨.map ((es.toList.map (rg P k RU)).foldr DataW.insert []),⟨es,clock,hw,⟨by rw [hlen]; unfold LIM at hl; unfold maxLen; omega,⟨hb.1,hb.2,?_⟩,h1⟩,by omega,rfl⟩,?_,?_⟩
 ·rw [h]
  exact hnd.map (Value.int .i64) (fun a b hab e => hab (by cases e; rfl))
 ·have := (Go.WideShapes.sorted_perm (es.toList.map (rg P k RU))).map (fun p => intOf p.1)
  rw [h2] at this
  exact this
 ·have := (Go.WideShapes.sorted_perm (es.toList.map (rg P k RU))).length_eq
  simp only [Maps.size,this,List.length_map,Array.length_toList,hlen]
end Go.Ev
