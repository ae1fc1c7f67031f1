/- Regions that draw their order: the interpreter's operations, one past the other. -/
import Derived.Test.YtcjblapcdbjoiaaGreatDoorEvC
set_option linter.unnecessarySimpa false
set_option linter.unusedVariables false
set_option linter.unusedSimpArgs false
set_option linter.unusedSectionVars false
namespace Go.Ev
noncomputable section
variable [CodeRel]
def Opd.use : Opd → List Nat
 | .t n => [n]
 | .c _ => []
def useO : Option Opd → List Nat
 | some x => x.use
 | none => []
def Tgt.use : Tgt → List Nat
 | .f _ => []
 | .v x => x.use
 | .m x _ => x.use
def IOp.use : IOp → List Nat
 | .mov x => x.use
 | .pick c a b => c.use ++ a.use ++ b.use
 | .alloc _ => []
 | .box _ x => x.use
 | .build _ ps => ps.flatMap fun p => p.2.2.use
 | .bslice _ _ _ ps => ps.flatMap fun p => p.2.use
 | .bslm _ _ _ ps => ps.flatMap fun p => p.2.use
 | .load _ a => a.use
 | .store _ a x => a.use ++ x.use
 | .nilc x => x.use
 | .bin _ x y => x.use ++ y.use
 | .beq _ x y => x.use ++ y.use
 | .stq _ _ x y => x.use ++ y.use
 | .not x => x.use
 | .neg x => x.use
 | .conv _ x => x.use
 | .strc x => x.use
 | .miface _ x => x.use
 | .mfunc _ xs => xs.flatMap Opd.use
 | .mbm _ xs => xs.flatMap Opd.use
 | .isnil _ x => x.use
 | .slnil _ x => x.use
 | .mmap => []
 | .mslice _ _ l => l.use
 | .slice _ x lo hi mx => x.use ++ useO lo ++ useO hi ++ useO mx
 | .faddr _ x => x.use
 | .fld _ _ x => x.use
 | .iaddr _ _ x i => x.use ++ i.use
 | .idx x i => x.use ++ i.use
 | .lookup _ _ m k _ => m.use ++ k.use
 | .mupd _ m k v => m.use ++ k.use ++ v.use
 | .lookup2 _ _ m k _ => m.use ++ k.use
 | .mupd2 _ m k v => m.use ++ k.use ++ v.use
 | .del _ m k => m.use ++ k.use
 | .tas _ _ _ x => x.use
 | .extr _ x => x.use
 | .call f xs => f.use ++ xs.flatMap Opd.use
 | .callq f xs => f.use ++ xs.flatMap Opd.use
 | .callg f xs => f.use ++ xs.flatMap Opd.use
 | .callm av f xs => av ++ (f.use ++ xs.flatMap Opd.use)
 | .app _ x y => x.use ++ y.use
 | .appz _ x y => x.use ++ y.use
 | .appo _ x y => x.use ++ y.use
 | .appq _ x y => x.use ++ y.use
 | .appx _ x y => x.use ++ y.use
 | .allocb .. => []
 | .apps x y => x.use ++ y.use
 | .appm av _ x y => av ++ (x.use ++ y.use)
 | .loadb m _ a => [m] ++ a.use
 | .cap x => x.use
 | .appr _ _ x l => x.use ++ l.use
 | .storeb b _ a x => [b] ++ (a.use ++ x.use)
 | .storem av _ a x => av ++ (a.use ++ x.use)
 | .len _ x => x.use
 | .mm _ x y => x.use ++ y.use
 | .dfr _ xs => xs.flatMap Opd.use
 | .panic x => x.use
 | .recover => []
def IOper.use (x : IOper) : List Nat := x.op.use ++ (match x.guard with | some (s,_) => [s] | none => [])
def EqOn (l : List Nat) (e e' : Env) : Prop := ∀ s ∈ l,look e s = look e' s
theorem EqOn.left {l m : List Nat} {e e' : Env} (h : EqOn (l ++ m) e e') : EqOn l e e' := fun s hs => h s (by simp [hs])
theorem EqOn.right {l m : List Nat} {e e' : Env} (h : EqOn (l ++ m) e e') : EqOn m e e' := fun s hs => h s (by simp [hs])
theorem ev_eq {e e' : Env} {x : Opd} (h : EqOn x.use e e') : ev e x = ev e' x := by
 cases x with
 | t n => exact h n (by simp [Opd.use])
 | c v => rfl
theorem evs_eq {e e' : Env} : ∀ {xs : List Opd},EqOn (xs.flatMap Opd.use) e e' → evs e xs = evs e' xs
 | [],_ => rfl
 | x :: r,h => by
  simp only [List.flatMap_cons] at h
  simp only [evs,ev_eq h.left,evs_eq h.right]
theorem evp_eq {e e' : Env} : ∀ {xs : List (Nat × Opd)},EqOn (xs.flatMap fun p => p.2.use) e e' → evp e xs = evp e' xs
 | [],_ => rfl
 | (i,x) :: r,h => by
  simp only [List.flatMap_cons] at h
  simp only [evp,ev_eq h.left,evp_eq h.right]
theorem evq_eq {e e' : Env} : ∀ {xs : List (Nat × Nat × Opd)},EqOn (xs.flatMap fun p => p.2.2.use) e e' → evq e xs = evq e' xs
 | [],_ => rfl
 | (i,n,x) :: r,h => by
  simp only [List.flatMap_cons] at h
  simp only [evq,ev_eq h.left,evq_eq h.right]
theorem evo_eq {e e' : Env} {x : Option Opd} (h : EqOn (useO x) e e') : evo e x = evo e' x := by
 cases x with
 | none => rfl
 | some x => simp only [evo,ev_eq (x := x) h]
theorem callE_eq {e e' : Env} {σ : Sto} {f : Tgt} {vs : List PV} (h : EqOn f.use e e') : callE e σ f vs = callE e' σ f vs := by
 cases f with
 | f n => rfl
 | v x => simp only [callE,ev_eq (x := x) h]
 | m x tab => simp only [callE,ev_eq (x := x) h]
theorem opE_eq {bars : List Nat} {σ : Sto} {e e' : Env} {x : IOp} (h : EqOn x.use e e') : opE bars e σ x = opE bars e' σ x := by
 cases x with
 | mov x => simp only [opE,ev_eq (x := x) h]
 | pick c a b => simp only [opE,ev_eq (x := c) h.left.left,ev_eq (x := a) h.left.right,ev_eq (x := b) h.right]
 | alloc _ => rfl
 | box _ x => simp only [opE,ev_eq (x := x) h]
 | build _ ps => simp only [opE,evq_eq (xs := ps) h]
 | bslice _ _ _ ps => simp only [opE,evp_eq (xs := ps) h]
 | bslm _ _ _ ps => simp only [opE,evp_eq (xs := ps) h]
 | load _ a => simp only [opE,ev_eq (x := a) h]
 | store _ a x => simp only [opE,ev_eq (x := a) h.left,ev_eq (x := x) h.right]
 | nilc x => simp only [opE,ev_eq (x := x) h]
 | bin _ x y => simp only [opE,ev_eq (x := x) h.left,ev_eq (x := y) h.right]
 | beq _ x y => simp only [opE,ev_eq (x := x) h.left,ev_eq (x := y) h.right]
 | stq _ _ x y => simp only [opE,ev_eq (x := x) h.left,ev_eq (x := y) h.right]
 | not x => simp only [opE,ev_eq (x := x) h]
 | neg x => simp only [opE,ev_eq (x := x) h]
 | conv _ x => simp only [opE,ev_eq (x := x) h]
 | strc x => simp only [opE,ev_eq (x := x) h]
 | miface _ x => simp only [opE,ev_eq (x := x) h]
 | mfunc _ xs => simp only [opE,evs_eq (xs := xs) h]
 | mbm _ xs => simp only [opE,evs_eq (xs := xs) h]
 | isnil _ x => simp only [opE,ev_eq (x := x) h]
 | slnil _ x => simp only [opE,ev_eq (x := x) h]
 | mmap => rfl
 | mslice _ _ l => simp only [opE,ev_eq (x := l) h]
 | slice _ x lo hi mx => simp only [opE,ev_eq (x := x) h.left.left.left,evo_eq (x := lo) h.left.left.right,evo_eq (x := hi) h.left.right,evo_eq (x := mx) h.right]
 | faddr _ x => simp only [opE,ev_eq (x := x) h]
 | fld _ _ x => simp only [opE,ev_eq (x := x) h]
 | iaddr _ _ x i => simp only [opE,ev_eq (x := x) h.left,ev_eq (x := i) h.right]
 | idx x i => simp only [opE,ev_eq (x := x) h.left,ev_eq (x := i) h.right]
 | lookup _ _ m k _ => simp only [opE,ev_eq (x := m) h.left,ev_eq (x := k) h.right]
 | mupd _ m k v => simp only [opE,ev_eq (x := m) h.left.left,ev_eq (x := k) h.left.right,ev_eq (x := v) h.right]
 | lookup2 _ _ m k _ => simp only [opE,ev_eq (x := m) h.left,ev_eq (x := k) h.right]
 | mupd2 _ m k v => simp only [opE,ev_eq (x := m) h.left.left,ev_eq (x := k) h.left.right,ev_eq (x := v) h.right]
 | del _ m k => simp only [opE,ev_eq (x := m) h.left,ev_eq (x := k) h.right]
 | tas _ _ _ x => simp only [opE,ev_eq (x := x) h]
 | extr _ x => simp only [opE,ev_eq (x := x) h]
 | call f xs => simp only [opE,evs_eq (xs := xs) h.right,callE_eq (f := f) h.left]
 | callq f xs => simp only [opE,evs_eq (xs := xs) h.right,callE_eq (f := f) h.left]
 | callg f xs => simp only [opE,evs_eq (xs := xs) h.right,callE_eq (f := f) h.left]
 | cap x => simp only [opE,ev_eq (x := x) h]
 | appr _ _ x l => simp only [opE,ev_eq (x := x) h.left,ev_eq (x := l) h.right]
 | appz _ x y => simp only [opE,ev_eq (x := x) h.left,ev_eq (x := y) h.right]
 | appq _ x y => simp only [opE,ev_eq (x := x) h.left,ev_eq (x := y) h.right]
 | allocb _ _ => rfl
 | appx _ x y => simp only [opE,ev_eq (x := x) h.left,ev_eq (x := y) h.right]
 | apps x y => simp only [opE,ev_eq (x := x) h.left,ev_eq (x := y) h.right]
 | appo _ x y =>
  cases x with
  | c _ => rfl
  | t s => simp only [opE,ev_eq (x := y) h.right]; have := ev_eq (x := .t s) h.left; simp only [ev] at this; rw [this]
 | storeb b _ x y =>
  have hb : ∀ p,sameTop e b p = sameTop e' b p := fun p => by unfold sameTop; rw [h b (by simp [IOp.use])]
  simp only [opE,ev_eq (x := x) h.right.left,ev_eq (x := y) h.right.right,hb]
 | storem av _ x y =>
  have hb : ∀ (l : List Nat) p,EqOn l e e' → apartTop e l p = apartTop e' l p := by
   intro l p
   induction l with
   | nil => intro _; rfl
   | cons m r ih => intro hl; simp only [apartTop,hl m (by simp),ih fun s hs => hl s (by simp [hs])]
  simp only [opE,ev_eq (x := x) h.right.left,ev_eq (x := y) h.right.right,fun p => hb av p h.left]
 | appm av _ x y =>
  have hb : ∀ (l : List Nat) p,EqOn l e e' → apartTop e l p = apartTop e' l p := by
   intro l p
   induction l with
   | nil => intro _; rfl
   | cons m r ih => intro hl; simp only [apartTop,hl m (by simp),ih fun s hs => hl s (by simp [hs])]
  simp only [opE,ev_eq (x := x) h.right.left,ev_eq (x := y) h.right.right,fun p => hb av p h.left]
 | loadb m _ a =>
  have hb : ∀ p,sameTop e m p = sameTop e' m p := fun p => by unfold sameTop; rw [h m (by simp [IOp.use])]
  simp only [opE,ev_eq (x := a) h.right,hb]
 | callm av f xs => simp only [opE,evs_eq (xs := xs) h.right.right,callE_eq (f := f) h.right.left]
 | app _ x y => simp only [opE,ev_eq (x := x) h.left,ev_eq (x := y) h.right]
 | len _ x => simp only [opE,ev_eq (x := x) h]
 | mm _ x y => simp only [opE,ev_eq (x := x) h.left,ev_eq (x := y) h.right]
 | dfr _ xs => simp only [opE,evs_eq (xs := xs) h]
 | panic x => simp only [opE,ev_eq (x := x) h]
 | recover => rfl
theorem wantedE_eq {e e' : Env} {g : Option (Nat × Bool)} (h : EqOn (match g with | some (s,_) => [s] | none => []) e e') : wantedE e g = wantedE e' g := by
 cases g with
 | none => rfl
 | some p => obtain ⟨s,b⟩ := p; simp only [wantedE,h s (by simp)]
open Classical in
def act1 (calls : Sem') (bars : List Nat) (o : IOper) (env : Env) (σ : Sto) : Option (PV × Sto) :=
 match wantedE env o.guard with
 | some true =>
  match opE bars env σ o.op with
  | some (.val v σ') => some (v,σ')
  | some (.call f args σ') =>
   match calls bars f args σ' with
   | some (.ret v,σ'') => if o.op.bad env σ' σ'' then none else some (v,σ'')
   | _ => none
  | _ => none
 | some false => some (.tup [],σ)
 | none => none
theorem act1_of {calls : Sem'} {bars : List Nat} {o : IOper} {env env' : Env} {σ σ' : Sto} (h : evOp1 calls bars o env σ = some (.norm,env',σ')) : ∃ v,act1 calls bars o env σ = some (v,σ') ∧ env' = putE env o.dst v := by
 unfold evOp1 at h
 unfold act1
 split at h
 ·rename_i hw
  split at h
  ·rename_i hop
   cases h; exact ⟨_,by simp only [hw,hop],rfl⟩
  ·rename_i hop
   split at h
   ·rename_i hc
    split at h
    ·cases h
    ·rename_i hq
     cases h
     exact ⟨_,by simp only [hw,hop,hc]; rw [if_neg hq],rfl⟩
   ·cases h
   ·cases h
  ·cases h
  ·cases h
 ·rename_i hw
  cases h; exact ⟨_,by simp only [hw],rfl⟩
 ·cases h
theorem evOp1_of {calls : Sem'} {bars : List Nat} {o : IOper} {env : Env} {σ σ' : Sto} {v : PV} (h : act1 calls bars o env σ = some (v,σ')) : evOp1 calls bars o env σ = some (.norm,putE env o.dst v,σ') := by
 unfold act1 at h
 unfold evOp1
 split at h
 ·rename_i hw
  split at h
  ·rename_i hop
   cases h; simp only [hw,hop]
  ·rename_i hop
   split at h
   ·rename_i hc
    split at h
    ·cases h
    ·rename_i hq
     cases h
     simp only [hw,hop,hc]; rw [if_neg hq]
   ·cases h
  ·cases h
 ·rename_i hw
  cases h; simp only [hw]
 ·cases h
theorem avs_use {o : IOp} {n : Nat} (h : n ∈ o.avs) : n ∈ o.use := by
 cases o <;> simp only [IOp.avs,List.not_mem_nil] at h <;> (simp only [IOp.use,List.mem_append]; exact .inl h)
theorem act1_eq {calls : Sem'} {bars : List Nat} {o : IOper} {e e' : Env} {σ : Sto} (h : EqOn o.use e e') : act1 calls bars o e σ = act1 calls bars o e' σ := by
 unfold act1
 have hb : o.op.bad e = o.op.bad e' := funext fun σ' => funext fun σ'' => by
  unfold IOp.bad
  rw [show (∃ n,n ∈ o.op.avs ∧ ∃ v id,look e n = some v ∧ top v = some id ∧ σ''[id]? ≠ σ'[id]?) = (∃ n,n ∈ o.op.avs ∧ ∃ v id,look e' n = some v ∧ top v = some id ∧ σ''[id]? ≠ σ'[id]?) from propext (exists_congr fun n => and_congr_right fun hn => by rw [h.left n (avs_use hn)])]
 rw [wantedE_eq h.right,opE_eq h.left,hb]
def IOp.kind : IOp → Nat
 | .mov _ | .pick .. | .build .. | .bslice .. | .faddr .. | .fld .. | .nilc _ | .extr .. | .miface .. | .mfunc .. | .mbm .. | .isnil .. | .slnil .. | .bin .. | .beq .. | .stq .. | .not _ | .neg _ | .conv .. | .strc _ | .len .. | .mm .. | .idx .. | .tas .. => 0
 | .load .. | .loadb .. | .slice .. | .iaddr .. | .lookup .. | .lookup2 .. => 1
 | .callq .. | .appq .. => 2
 | .callg .. => 5
 | .callm .. => 6
 | .storeb .. => 7
 | .storem .. | .appm .. => 8
 | .alloc _ => 3
 | _ => 4
end
end Go.Ev


namespace Go.Ev
variable [CodeRel]
def OpR.v? : OpR → Option PV
 | .val v _ => some v
 | _ => none
theorem op_P {bars : List Nat} {env : Env} {x : IOp} (hk : x.kind = 0) : ∃ f : Option PV,∀ σ,opE bars env σ x = f.map fun v => OpR.val v σ := by
 refine ⟨(opE bars env [] x).bind OpR.v?,fun σ => ?_⟩
 cases x
 case len str x =>
  simp only [opE]
  cases ev env x with
  | none => rfl
  | some v =>
   simp only [Option.bind_some]
   cases lenE str v with
   | none => rfl
   | some n => simp only [Option.bind_some]; split <;> rfl
 all_goals simp only [IOp.kind] at hk <;> (try (exact absurd hk (by decide))) <;> simp only [opE]
 all_goals first
  | (simp only [Option.bind_eq_bind,Option.bind_assoc,Option.bind_some,OpR.v?,Option.map_bind,Function.comp_def,Option.map_some]; done)
  | (repeat' split) <;> first | rfl | (simp only [Option.bind_assoc,Option.bind_some,OpR.v?,Option.map_bind,Function.comp_def,Option.map_some,Option.bind_none,Option.map_none]; done) | (simp_all [OpR.v?]; done)
def IOp.base : IOp → Opd
 | .load _ a => a
 | .loadb m _ _ => .t m
 | .slice _ x _ _ _ => x
 | .iaddr _ _ x _ => x
 | .lookup _ _ m _ _ => m
 | .lookup2 _ _ m _ _ => m
 | .storeb b _ _ _ => .t b
 | _ => .c (.k (.bool true))
def Agree (v : PV) (σ τ : Sto) : Prop := ∀ id,top v = some id → τ[id]? = σ[id]?
theorem Agree.refl (v : PV) (σ : Sto) : Agree v σ σ := fun _ _ => rfl
theorem Agree.of {v : PV} {σ τ : Sto} {n : Nat} (hb : below n v = true) (h : ∀ i,i < n → τ[i]? = σ[i]?) : Agree v σ τ := by
 intro id ht
 apply h
 cases v <;> simp only [top,Option.some.injEq,reduceCtorEq] at ht <;> subst ht <;> simp_all [below]
theorem loadE_eq {σ τ : Sto} {k : Option Nat} {p : PV} (hb : Agree p σ τ) : loadE τ k p = loadE σ k p := by
 cases p with
 | ptr id off => simp only [loadE,hb id rfl]
 | pa id ver i off => simp only [loadE,hb id rfl]
 | _ => rfl
theorem sliceE_eq {σ τ : Sto} {esz : Nat} {p : PV} {lo hi mx : Option PV} (hb : Agree p σ τ) : sliceE τ esz p lo hi mx = sliceE σ esz p lo hi mx := by
 cases p with
 | ow id m es =>
  unfold sliceE
  cases lo.getD (.i 0) <;> try rfl
  rename_i v; cases v <;> try rfl
  rename_i j z; cases j <;> try rfl
  simp only [hb id rfl]
 | rs id ver off len =>
  unfold sliceE
  cases lo.getD (.i 0) <;> try rfl
  rename_i v; cases v <;> try rfl
  rename_i j z; cases j <;> try rfl
  simp only [hb id rfl]
 | k u => unfold sliceE; generalize lo.getD (.i 0) = q; cases u <;> cases q <;> first | rfl | (rename_i v; cases v <;> first | rfl | (rename_i j z; cases j <;> rfl))
 | sl t es => unfold sliceE; generalize lo.getD (.i 0) = q; cases q <;> first | rfl | (rename_i v; cases v <;> first | rfl | (rename_i j z; cases j <;> rfl))
 | _ => rfl
theorem op_R {bars : List Nat} {env : Env} {σ τ : Sto} {x : IOp} {r : OpR} (hk : x.kind = 1) (hb : ∀ v,ev env x.base = some v → Agree v σ τ) (h : opE bars env σ x = some r) : ∃ v,r = .val v σ ∧ opE bars env τ x = some (.val v τ) := by
 cases x <;> simp only [IOp.kind] at hk <;> try (exact absurd hk (by decide))
 case load k a =>
  simp only [opE,Option.bind_eq_some_iff,Option.some.injEq] at h ⊢
  obtain ⟨p,hp,v,hv,rfl⟩ := h
  exact ⟨v,rfl,p,hp,v,by rw [loadE_eq (hb p hp)]; exact hv,rfl⟩
 case loadb m k a =>
  simp only [opE,Option.bind_eq_some_iff] at h ⊢
  obtain ⟨p,hp,h⟩ := h
  split at h
  ·rename_i hst
   simp only [Option.bind_eq_some_iff,Option.some.injEq] at h
   obtain ⟨v,hv,rfl⟩ := h
   refine ⟨v,rfl,p,hp,?_⟩
   rw [if_pos hst]
   have hag : Agree p σ τ := by
    unfold sameTop at hst
    split at hst
    ·rename_i u hu
     rw [beq_iff_eq] at hst
     intro id hid
     exact hb u hu id (hst.trans hid)
    ·cases hst
   rw [loadE_eq hag,hv]; rfl
  ·cases h
 case slice esz x lo hi mx =>
  simp only [opE,Option.bind_eq_some_iff,Option.some.injEq] at h ⊢
  obtain ⟨p,hp,l,hl,hh,hhi,m,hm,v,hv,rfl⟩ := h
  exact ⟨v,rfl,p,hp,l,hl,hh,hhi,m,hm,v,by rw [sliceE_eq (hb p hp)]; exact hv,rfl⟩
 case iaddr arr esz x i =>
  simp only [IOp.base] at hb
  simp only [opE] at h ⊢
  cases hx : ev env x with
  | none => rw [hx] at h; cases h
  | some p =>
   have hbp := hb p hx
   rw [hx] at h
   cases hi : ev env i with
   | none => rw [hi] at h; cases p <;> cases h
   | some q =>
    rw [hi] at h
    cases p with
    | rs id ver off len =>
     cases q <;> first | (cases h; done) | skip
     rename_i v
     cases v <;> first | (cases h; done) | skip
     rename_i j z
     cases j <;> first | (cases h; done) | skip
     change (if 0 ≤ z ∧ z < len ∧ arr = none then _ else none) = _ at h
     change ∃ v,r = OpR.val v σ ∧ (if 0 ≤ z ∧ z < len ∧ arr = none then (match τ[id]? with
      | some (.arr v k es) => if v = ver ∧ k = esz then some (OpR.val (.pa id ver (off + z.toNat) 0) τ) else none
      | some (.pt v k es _) => if v = ver ∧ k = esz then some (OpR.val (.pa id ver (off + z.toNat) 0) τ) else none
      | _ => none) else none) = some (.val v τ)
     rw [hbp id rfl]
     split at h
     ·rename_i hc
      rw [if_pos hc]
      split at h
      ·rename_i vv k es hs
       split at h
       ·rename_i hvk
        cases h
        exact ⟨_,rfl,by simp only [hs]; rw [if_pos hvk]⟩
       ·cases h
      ·rename_i vv k es zz hs
       split at h
       ·rename_i hvk
        cases h
        exact ⟨_,rfl,by simp only [hs]; rw [if_pos hvk]⟩
       ·cases h
      ·cases h
     ·cases h
    | _ =>
     try simp only at h ⊢
     repeat' (split at h)
     all_goals first
      | (cases h; done)
      | (cases h; exact ⟨_,rfl,by simp_all⟩)
      | (simp only [Option.bind_eq_some_iff] at h
         obtain ⟨e,he,h⟩ := h
         split at h
         ·cases h
          exact ⟨_,rfl,by simp_all⟩
         ·cases h)
 case lookup str zero m key ok =>
  simp only [IOp.base] at hb
  simp only [opE] at h ⊢
  cases hm : ev env m with
  | none => rw [hm] at h; cases h
  | some p =>
   have hbp := hb p hm
   rw [hm] at h
   cases hkk : ev env key with
   | none => rw [hkk] at h; cases p <;> cases h
   | some q =>
    rw [hkk] at h
    cases p with
    | map id =>
     cases q with
     | k kv =>
      simp only [hbp id rfl] at h ⊢
      cases hs : σ[id]? with
      | none => rw [hs] at h; cases h
      | some ob =>
       rw [hs] at h
       cases ob with
       | mp l =>
        simp only [Option.bind_eq_some_iff,Option.some.injEq] at h ⊢
        obtain ⟨y,hy,rfl⟩ := h
        exact ⟨_,rfl,y,hy,rfl⟩
       | _ => cases h
     | _ => cases h
    | _ => cases h
 case lookup2 kd zero m key ok =>
  simp only [IOp.base] at hb
  simp only [opE] at h ⊢
  cases hm : ev env m with
  | none => rw [hm] at h; cases h
  | some p =>
   have hbp := hb p hm
   rw [hm] at h
   cases hkk : ev env key with
   | none => rw [hkk] at h; cases p <;> cases h
   | some q =>
    rw [hkk] at h
    cases p with
    | map id =>
     cases q with
     | agg kv =>
      simp only [hbp id rfl] at h ⊢
      simp only [Option.bind_eq_some_iff] at h ⊢
      obtain ⟨ks,hks,h⟩ := h
      cases hs : σ[id]? with
      | none => rw [hs] at h; cases h
      | some ob =>
       rw [hs] at h
       cases ob with
       | mp l =>
        simp only [Option.bind_eq_some_iff,Option.some.injEq] at h ⊢
        obtain ⟨y,hy,rfl⟩ := h
        exact ⟨_,rfl,ks,hks,y,hy,rfl⟩
       | _ => cases h
     | _ => cases h
    | _ => cases h
theorem callE_sto {env : Env} {σ : Sto} {f : Tgt} {vs : List PV} {r : OpR} (h : callE env σ f vs = some r) : ∃ g xs,r = .call g xs σ := by
 cases f with
 | f n => cases h; exact ⟨_,_,rfl⟩
 | v x =>
  simp only [callE] at h
  split at h
  ·split at h
   ·cases h; exact ⟨_,_,rfl⟩
   ·cases h
  ·cases h; exact ⟨_,_,rfl⟩
  ·split at h
   ·cases h; exact ⟨_,_,rfl⟩
   ·cases h
  ·cases h
 | m x tab =>
  simp only [callE] at h
  split at h
  ·simp only [Option.bind_eq_some_iff] at h
   obtain ⟨n,-,h⟩ := h
   split at h
   ·cases h; exact ⟨_,_,rfl⟩
   ·cases h
  ·cases h
section
variable {calls : Sem'} {bars : List Nat} {x : IOper} {env : Env} {σ τ σ' : Sto} {v : PV}
theorem act_P (hk : x.op.kind = 0) (h : act1 calls bars x env σ = some (v,σ')) : σ' = σ ∧ ∀ τ,act1 calls bars x env τ = some (v,τ) := by
 obtain ⟨f,hf⟩ := op_P (bars := bars) (env := env) hk
 unfold act1 at h
 split at h
 ·rename_i hw
  rw [hf] at h
  cases f with
  | none => simp at h
  | some u =>
   simp at h
   obtain ⟨rfl,rfl⟩ := h
   exact ⟨rfl,fun τ => by unfold act1; simp only [hw,hf,Option.map_some]⟩
 ·rename_i hw
  cases h
  exact ⟨rfl,fun τ => by unfold act1; simp only [hw]⟩
 ·cases h
theorem act_R (hk : x.op.kind = 1) (hb : ∀ v,ev env x.op.base = some v → Agree v σ τ) (h : act1 calls bars x env σ = some (v,σ')) : σ' = σ ∧ act1 calls bars x env τ = some (v,τ) := by
 unfold act1 at h
 split at h
 ·rename_i hw
  cases ho : opE bars env σ x.op with
  | none => rw [ho] at h; cases h
  | some r =>
   obtain ⟨u,rfl,h2⟩ := op_R hk hb ho
   rw [ho] at h
   cases h
   exact ⟨rfl,by unfold act1; simp only [hw,h2]⟩
 ·rename_i hw
  cases h
  exact ⟨rfl,by unfold act1; simp only [hw]⟩
 ·cases h
theorem act_Q (hk : x.op.kind = 2) (h : act1 calls bars x env σ = some (v,σ')) : σ' = σ := by
 obtain ⟨dst,op,guard⟩ := x
 cases op <;> simp only [IOp.kind] at hk <;> try (exact absurd hk (by decide))
 rotate_left
 ·unfold act1 at h
  split at h
  ·split at h
   ·rename_i v0 σ0 ho
    obtain ⟨u,hu⟩ := appq_sto ho
    cases hu; cases h; rfl
   ·rename_i ho
    obtain ⟨u,hu⟩ := appq_sto ho
    cases hu
   ·cases h
  ·cases h; rfl
  ·cases h
 rename_i f xs
 unfold act1 at h
 split at h
 ·simp only [opE] at h
  cases hv : evs env xs with
  | none => rw [hv] at h; cases h
  | some vs =>
   rw [hv] at h
   simp only [Option.bind_some] at h
   cases hc : callE env σ f vs with
   | none => rw [hc] at h; cases h
   | some r =>
    rw [hc] at h
    obtain ⟨g,ys,rfl⟩ := callE_sto hc
    simp only at h
    split at h
    ·split at h
     ·cases h
     ·rename_i hq
      cases h
      exact Classical.not_not.1 fun hne => hq (.inl ⟨rfl,hne⟩)
    ·cases h
 ·cases h; rfl
 ·cases h
theorem act_G (hk : x.op.kind = 5) (h : act1 calls bars x env σ = some (v,σ')) : ∃ ext,σ' = σ ++ ext := by
 obtain ⟨dst,op,guard⟩ := x
 cases op <;> simp only [IOp.kind] at hk <;> try (exact absurd hk (by decide))
 rename_i f xs
 unfold act1 at h
 split at h
 ·simp only [opE] at h
  cases hv : evs env xs with
  | none => rw [hv] at h; cases h
  | some vs =>
   rw [hv] at h
   simp only [Option.bind_some] at h
   cases hc : callE env σ f vs with
   | none => rw [hc] at h; cases h
   | some r =>
    rw [hc] at h
    obtain ⟨g,ys,rfl⟩ := callE_sto hc
    simp only at h
    split at h
    ·split at h
     ·cases h
     ·rename_i hq
      cases h
      exact Classical.not_not.1 fun hne => hq (.inr (.inl ⟨rfl,hne⟩))
    ·cases h
 ·cases h; exact ⟨[],by simp⟩
 ·cases h
theorem act_M (hk : x.op.kind = 6) (h : act1 calls bars x env σ = some (v,σ')) {n : Nat} (hn : n ∈ x.op.avs) {u : PV} (hu : look env n = some u) : Agree u σ σ' := by
 intro id hid
 obtain ⟨dst,op,guard⟩ := x
 cases op <;> simp only [IOp.kind] at hk <;> try (exact absurd hk (by decide))
 rename_i av f xs
 unfold act1 at h
 split at h
 ·simp only [opE] at h
  cases hv : evs env xs with
  | none => rw [hv] at h; cases h
  | some vs =>
   rw [hv] at h
   simp only [Option.bind_some] at h
   cases hc : callE env σ f vs with
   | none => rw [hc] at h; cases h
   | some r =>
    rw [hc] at h
    obtain ⟨g,ys,rfl⟩ := callE_sto hc
    simp only at h
    split at h
    ·split at h
     ·cases h
     ·rename_i hq
      cases h
      exact Classical.not_not.1 fun hne => hq (.inr (.inr ⟨n,hn,u,id,hu,hid,hne⟩))
    ·cases h
 ·cases h; rfl
 ·cases h
theorem storeE_local {σ' : Sto} {n : Nat} {p u : PV} (h : storeE bars σ n p u = some σ') : ∃ id ob,top p = some id ∧ id < σ.length ∧ σ' = σ.set id ob ∧ ∀ τ : Sto,τ[id]? = σ[id]? → storeE bars τ n p u = some (τ.set id ob) := by
 unfold storeE at h
 split at h
 ·rename_i hl
  split at h
  ·rename_i id off
   split at h
   ·rename_i cs hs
    split at h
    ·rename_i hb
     simp only [Option.bind_eq_some_iff,Option.some.injEq] at h
     obtain ⟨cs',hp,rfl⟩ := h
     exact ⟨id,_,rfl,(List.getElem?_eq_some_iff.1 hs).1,rfl,fun τ hτ => by simp only [storeE,if_pos hl,hτ,hs,if_pos hb,hp,Option.bind_some]⟩
    ·cases h
   ·cases h
  ·rename_i id ver i off
   split at h
   ·rename_i v k es hs
    split at h
    ·rename_i hb
     simp only [Option.bind_eq_some_iff,Option.some.injEq] at h
     obtain ⟨e,he,e',hp,rfl⟩ := h
     exact ⟨id,_,rfl,(List.getElem?_eq_some_iff.1 hs).1,rfl,fun τ hτ => by simp only [storeE,if_pos hl,hτ,hs,if_pos hb,he,hp,Option.bind_some]⟩
    ·cases h
   ·rename_i v k es z hs
    split at h
    ·rename_i hb
     simp only [Option.bind_eq_some_iff,Option.some.injEq] at h
     obtain ⟨e',hp,rfl⟩ := h
     exact ⟨id,_,rfl,(List.getElem?_eq_some_iff.1 hs).1,rfl,fun τ hτ => by simp only [storeE,if_pos hl,hτ,hs,if_pos hb,hp,Option.bind_some]⟩
    ·cases h
   ·cases h
  ·cases h
 ·cases h
theorem act_SB (hk : x.op.kind = 7) (h : act1 calls bars x env σ = some (v,σ')) : (σ' = σ ∧ ∀ τ,act1 calls bars x env τ = some (v,τ)) ∨
  ∃ id ob u,ev env x.op.base = some u ∧ top u = some id ∧ id < σ.length ∧ σ' = σ.set id ob ∧ ∀ τ : Sto,τ[id]? = σ[id]? → act1 calls bars x env τ = some (v,τ.set id ob) := by
 obtain ⟨dst,op,guard⟩ := x
 cases op <;> simp only [IOp.kind] at hk <;> try (exact absurd hk (by decide))
 rename_i b n a y
 unfold act1 at h
 split at h
 ·rename_i hw
  simp only [opE] at h
  cases hp : ev env a with
  | none => rw [hp] at h; cases h
  | some p =>
   rw [hp] at h
   simp only [Option.bind_some] at h
   by_cases hst : sameTop env b p = true
   ·rw [if_pos hst] at h
    cases hu : ev env y with
    | none => rw [hu] at h; cases h
    | some u =>
     rw [hu] at h
     simp only [Option.bind_some] at h
     cases hs : storeE bars σ n p u with
     | none => rw [hs] at h; cases h
     | some σ1 =>
      rw [hs] at h
      cases h
      obtain ⟨id,ob,h1,h2,h3,h4⟩ := storeE_local hs
      have hst' := hst
      unfold sameTop at hst'
      split at hst'
      ·rename_i q hq
       exact .inr ⟨id,ob,q,hq,by rw [beq_iff_eq] at hst'; rw [hst',h1],h2,h3,fun τ hτ => by
        unfold act1
        simp only [hw,opE,hp,Option.bind_some,if_pos hst,hu,h4 τ hτ]⟩
      ·cases hst'
   ·rw [if_neg hst] at h; cases h
 ·rename_i hw
  cases h
  exact .inl ⟨rfl,fun τ => by unfold act1; simp only [hw]⟩
 ·cases h
theorem apartTop_spec {p : PV} {i : Nat} (hi : top p = some i) : ∀ {l : List Nat},apartTop env l p = true → ∀ n ∈ l,∀ u,look env n = some u → top u ≠ some i
 | [],_,n,hn,_,_ => by cases hn
 | m :: r,h,n,hn,u,hu => by
  simp only [apartTop,Bool.and_eq_true] at h
  rcases List.mem_cons.1 hn with rfl | hn
  ·rw [hu] at h
   simp only [bne_iff_ne] at h
   rw [← hi]; exact h.1
  ·exact apartTop_spec hi h.2 n hn u hu
theorem act_SM (hk : x.op.kind = 8) (h : act1 calls bars x env σ = some (v,σ')) : (σ' = σ ∧ ∀ τ,act1 calls bars x env τ = some (v,τ)) ∨
  ∃ id ob,id < σ.length ∧ σ' = σ.set id ob ∧ (∀ n ∈ x.op.avs,∀ u,look env n = some u → top u ≠ some id) ∧ ∀ τ : Sto,τ[id]? = σ[id]? → act1 calls bars x env τ = some (v,τ.set id ob) := by
 obtain ⟨dst,op,guard⟩ := x
 cases op <;> simp only [IOp.kind] at hk <;> try (exact absurd hk (by decide))
 ·rename_i av esz x y
  unfold act1 at h
  split at h
  ·rename_i hw
   simp only [opE] at h
   cases hp : ev env x with
   | none => rw [hp] at h; cases h
   | some p =>
    rw [hp] at h
    simp only [Option.bind_some] at h
    by_cases hst : apartTop env av p = true
    ·rw [if_pos hst] at h
     cases hu : ev env y with
     | none => rw [hu] at h; cases h
     | some u =>
      rw [hu] at h
      simp only [Option.bind_some] at h
      cases hs : appmE esz σ p u with
      | none => rw [hs] at h; cases h
      | some q =>
       rw [hs] at h
       obtain ⟨q1,q2⟩ := q
       cases h
       rcases appmE_local hs with ⟨h1,h2⟩ | ⟨id,ob,h1,h2,h3,h4⟩
       ·simp only at h1
        subst h1
        exact .inl ⟨rfl,fun τ => by
         unfold act1
         simp only [hw,opE,hp,Option.bind_some,if_pos hst,hu,h2 τ]⟩
       ·exact .inr ⟨id,ob,h2,h3,apartTop_spec h1 hst,fun τ hτ => by
         unfold act1
         simp only [hw,opE,hp,Option.bind_some,if_pos hst,hu,h4 τ hτ]⟩
    ·rw [if_neg hst] at h; cases h
  ·rename_i hw
   cases h
   exact .inl ⟨rfl,fun τ => by unfold act1; simp only [hw]⟩
  ·cases h
 rename_i av n a y
 unfold act1 at h
 split at h
 ·rename_i hw
  simp only [opE] at h
  cases hp : ev env a with
  | none => rw [hp] at h; cases h
  | some p =>
   rw [hp] at h
   simp only [Option.bind_some] at h
   by_cases hst : apartTop env av p = true
   ·rw [if_pos hst] at h
    cases hu : ev env y with
    | none => rw [hu] at h; cases h
    | some u =>
     rw [hu] at h
     simp only [Option.bind_some] at h
     cases hs : storeE bars σ n p u with
     | none => rw [hs] at h; cases h
     | some σ1 =>
      rw [hs] at h
      cases h
      obtain ⟨id,ob,h1,h2,h3,h4⟩ := storeE_local hs
      exact .inr ⟨id,ob,h2,h3,apartTop_spec h1 hst,fun τ hτ => by
       unfold act1
       simp only [hw,opE,hp,Option.bind_some,if_pos hst,hu,h4 τ hτ]⟩
   ·rw [if_neg hst] at h; cases h
 ·rename_i hw
  cases h
  exact .inl ⟨rfl,fun τ => by unfold act1; simp only [hw]⟩
 ·cases h
theorem act_SM_agree (hk : x.op.kind = 8) (h : act1 calls bars x env σ = some (v,σ')) {n : Nat} (hn : n ∈ x.op.avs) {u : PV} (hu : look env n = some u) : Agree u σ σ' := by
 intro id hid
 rcases act_SM hk h with ⟨rfl,-⟩ | ⟨j,ob,-,rfl,h1,-⟩
 ·rfl
 ·have : j ≠ id := fun e => h1 n hn u hu (by rw [hid,e])
  simp [List.getElem?_set,this]
theorem op_R_ext {x : IOp} {r : OpR} {ext : Sto} (hk : x.kind = 1) (h : opE bars env σ x = some r) : ∃ v,r = .val v σ ∧ opE bars env (σ ++ ext) x = some (.val v (σ ++ ext)) := by
 have hg : ∀ {id : Nat} {ob : Ob},σ[id]? = some ob → (σ ++ ext)[id]? = some ob := fun {id ob} h => by
  rw [List.getElem?_append_left (List.getElem?_eq_some_iff.1 h).1]; exact h
 cases x <;> simp only [IOp.kind] at hk <;> try (exact absurd hk (by decide))
 case load k a =>
  simp only [opE,Option.bind_eq_some_iff,Option.some.injEq] at h ⊢
  obtain ⟨p,hp,v,hv,rfl⟩ := h
  refine ⟨v,rfl,p,hp,v,?_,rfl⟩
  unfold loadE at hv ⊢
  split at hv
  ·split at hv
   ·rename_i hs; simp only [hg hs]; exact hv
   ·cases hv
  ·split at hv
   ·rename_i hs; simp only [hg hs]; exact hv
   ·cases hv
  ·exact hv
  ·cases hv
 case loadb m k a =>
  simp only [opE,Option.bind_eq_some_iff] at h ⊢
  obtain ⟨p,hp,h⟩ := h
  split at h
  ·rename_i hst
   simp only [Option.bind_eq_some_iff,Option.some.injEq] at h
   obtain ⟨v,hv,rfl⟩ := h
   refine ⟨v,rfl,p,hp,?_⟩
   rw [if_pos hst]
   have hv' : loadE (σ ++ ext) k p = some v := by
    unfold loadE at hv ⊢
    split at hv
    ·split at hv
     ·rename_i hs; simp only [hg hs]; exact hv
     ·cases hv
    ·split at hv
     ·rename_i hs; simp only [hg hs]; exact hv
     ·cases hv
    ·exact hv
    ·cases hv
   rw [hv']; rfl
  ·cases h
 case slice esz x lo hi mx =>
  simp only [opE,Option.bind_eq_some_iff,Option.some.injEq] at h ⊢
  obtain ⟨p,hp,l,hl,hh,hhi,m,hm,v,hv,rfl⟩ := h
  refine ⟨v,rfl,p,hp,l,hl,hh,hhi,m,hm,v,?_,rfl⟩
  unfold sliceE at hv ⊢
  split at hv
  ·exact hv
  ·exact hv
  ·split at hv
   ·split at hv
    ·rename_i hc
     rw [if_pos hc]
     split at hv
     ·rename_i hs; simp only [hg hs]; exact hv
     ·exact hv
     ·cases hv
    ·cases hv
   ·cases hv
  ·split at hv
   ·rename_i hq hs; simp only [hq,hg hs]; exact hv
   ·cases hv
  ·cases hv
 case iaddr arr esz x i =>
  simp only [opE] at h ⊢
  split at h
  ·split at h
   ·split at h
    ·rename_i hc
     cases h
     exact ⟨_,rfl,by simp only [if_pos hc]⟩
    ·cases h
   ·cases h
  ·split at h
   ·rename_i hc
    simp only [Option.bind_eq_some_iff] at h
    obtain ⟨e,he,h⟩ := h
    split at h
    ·rename_i hc2; cases h; exact ⟨_,rfl,by simp only [if_pos hc,he,Option.bind_some,if_pos hc2]⟩
    ·cases h
   ·cases h
  ·split at h
   ·rename_i hc
    simp only [Option.bind_eq_some_iff] at h
    obtain ⟨e,he,h⟩ := h
    split at h
    ·rename_i hc2; cases h; exact ⟨_,rfl,by simp only [if_pos hc,he,Option.bind_some,if_pos hc2]⟩
    ·cases h
   ·cases h
  ·split at h
   ·rename_i hc
    split at h
    ·rename_i hs
     split at h
     ·rename_i hc2
      cases h
      exact ⟨_,rfl,by simp only [if_pos hc,hg hs,if_pos hc2]⟩
     ·cases h
    ·rename_i hs
     split at h
     ·rename_i hc2
      cases h
      exact ⟨_,rfl,by simp only [if_pos hc,hg hs,if_pos hc2]⟩
     ·cases h
    ·cases h
   ·cases h
  ·cases h
 case lookup str zero m key ok =>
  simp only [opE] at h ⊢
  split at h
  ·split at h
   ·rename_i hs
    simp only [Option.bind_eq_some_iff,Option.some.injEq] at h
    obtain ⟨y,hy,rfl⟩ := h
    exact ⟨_,rfl,by simp only [hg hs,hy,Option.bind_some]⟩
   ·cases h
  ·cases h
 case lookup2 kd zero m key ok =>
  simp only [opE] at h ⊢
  split at h
  ·simp only [Option.bind_eq_some_iff] at h
   obtain ⟨ks,hks,h⟩ := h
   split at h
   ·rename_i hs
    simp only [Option.bind_eq_some_iff,Option.some.injEq] at h
    obtain ⟨y,hy,rfl⟩ := h
    exact ⟨_,rfl,by simp only [hks,hg hs,hy,Option.bind_some]⟩
   ·cases h
  ·cases h
theorem act_R_ext {ext : Sto} (hk : x.op.kind = 1) (h : act1 calls bars x env σ = some (v,σ')) : σ' = σ ∧ act1 calls bars x env (σ ++ ext) = some (v,σ ++ ext) := by
 unfold act1 at h
 split at h
 ·rename_i hw
  cases ho : opE bars env σ x.op with
  | none => rw [ho] at h; cases h
  | some r =>
   obtain ⟨u,rfl,h2⟩ := op_R_ext (ext := ext) hk ho
   rw [ho] at h
   cases h
   exact ⟨rfl,by unfold act1; simp only [hw,h2]⟩
 ·rename_i hw
  cases h
  exact ⟨rfl,by unfold act1; simp only [hw]⟩
 ·cases h
theorem act_A {zero : List PV} (ho : x.op = .alloc zero) (hg : x.guard = none) : act1 calls bars x env σ = some (.ptr σ.length 0,σ ++ [.var zero]) := by
 unfold act1
 rw [hg,ho]
 rfl
end
end Go.Ev


namespace Go.Ev
variable [CodeRel]
def EqAll (e e' : Env) : Prop := ∀ s,look e s = look e' s
theorem EqAll.refl (e : Env) : EqAll e e := fun _ => rfl
theorem EqAll.symm {e e' : Env} (h : EqAll e e') : EqAll e' e := fun s => (h s).symm
theorem EqAll.trans {e e' e'' : Env} (h : EqAll e e') (h' : EqAll e' e'') : EqAll e e'' := fun s => (h s).trans (h' s)
theorem EqAll.put {e e' : Env} (h : EqAll e e') (d : Option Nat) (v : PV) : EqAll (putE e d v) (putE e' d v) := by
 cases d with
 | none => exact h
 | some d => intro s; simp only [putE,look]; split <;> first | rfl | exact h s
theorem put_swap (e : Env) {d d' : Option Nat} (v v' : PV) (h : ∀ x,d = some x → d' ≠ some x) : EqAll (putE (putE e d v) d' v') (putE (putE e d' v') d v) := by
 cases d with
 | none => cases d' <;> exact EqAll.refl _
 | some d =>
  cases d' with
  | none => exact EqAll.refl _
  | some d' =>
   have hne : d' ≠ d := fun e => h d rfl (by rw [e])
   intro s
   simp only [putE,look]
   by_cases h1 : d' = s
   ·subst h1
    rw [if_pos rfl,if_neg (Ne.symm hne),if_pos rfl]
   ·by_cases h2 : d = s
    ·subst h2; simp [h1]
    ·simp [h1,h2]
theorem look_put {e : Env} {d : Option Nat} {v : PV} {s : Nat} (h : d ≠ some s) : look (putE e d v) s = look e s := by
 cases d with
 | none => rfl
 | some d => simp only [putE,look]; rw [if_neg (fun e => h (by rw [e]))]
theorem evOps_ext {calls : Sem'} {bars : List Nat} : ∀ {xs : List IOper} {e e' eF : Env} {σ σF : Sto},EqAll e e' → evOps calls bars xs e σ = some (.norm,eF,σF) → ∃ eF',evOps calls bars xs e' σ = some (.norm,eF',σF) ∧ EqAll eF eF'
 | [],e,e',eF,σ,σF,h,hr => by
  simp only [evOps,Option.some.injEq,Prod.mk.injEq,true_and] at hr
  obtain ⟨rfl,rfl⟩ := hr
  exact ⟨e',rfl,h⟩
 | x :: r,e,e',eF,σ,σF,h,hr => by
  simp only [evOps] at hr ⊢
  cases h1 : evOp1 calls bars x e σ with
  | none => rw [h1] at hr; cases hr
  | some r1 =>
   rw [h1] at hr
   obtain ⟨e1,env1,σ1⟩ := r1
   cases e1 with
   | norm =>
    obtain ⟨v,h2,rfl⟩ := act1_of h1
    have h3 : act1 calls bars x e' σ = some (v,σ1) := by rw [← act1_eq (e := e) (fun s _ => h s)]; exact h2
    rw [evOp1_of h3]
    exact evOps_ext (h.put _ _) hr
   | exit id => cases hr
   | ret => cases hr
   | pan v => cases hr
def baseIn (x y : IOper) : Bool := (x.op.kind != 1 && x.op.kind != 7) || (y.op.kind != 6 && y.op.kind != 8) || (match x.op.base with | .t n => y.op.avs.contains n | .c _ => false)
def apart (x y : IOper) : Bool := baseIn x y && (match x.dst with | some d => !(y.use.contains d) && y.dst != some d | none => true) && (match y.dst with | some d => !(x.use.contains d) | none => true)
theorem apart_spec {x y : IOper} (h : apart x y = true) : (∀ d,x.dst = some d → d ∉ y.use) ∧ (∀ d,x.dst = some d → y.dst ≠ some d) ∧ (∀ d,y.dst = some d → d ∉ x.use) ∧ baseIn x y = true := by
 unfold apart at h
 rw [Bool.and_assoc,Bool.and_eq_true] at h
 obtain ⟨h0,h⟩ := h
 refine ⟨fun d hd => ?_,fun d hd => ?_,fun d hd => ?_,h0⟩ <;> simp [hd] at h
 ·exact h.1.1
 ·exact h.1.2
 ·exact h.2
def compat (a b : Nat) : Bool := a == 0 || b == 0 || b == 3 || ((a == 1 || a == 2) && (b == 1 || b == 2)) || (a == 3 && b == 1) || (a == 1 && b == 5) || (a == 1 && b == 6) || (a == 1 && b == 8) || (a == 7 && b == 8)
theorem eqOn_put {e : Env} {d : Option Nat} {v : PV} {l : List Nat} (h : ∀ x,d = some x → x ∉ l) : EqOn l (putE e d v) e :=
 fun s hs => look_put fun hd => h s hd hs
section
variable {calls : Sem'} {bars : List Nat}
theorem base_use {x : IOp} : ∀ s ∈ x.base.use,s ∈ x.use := by
 intro s hs
 cases x <;> simp only [IOp.base,IOp.use,Opd.use,List.not_mem_nil,List.mem_append] at hs ⊢
 ·exact hs
 ·exact .inl (.inl (.inl hs))
 ·exact .inl hs
 ·exact .inl hs
 ·exact .inl hs
 ·exact .inl hs
 ·exact .inl hs
theorem pull {y : IOper} {n : Nat} (hy3 : y.op.kind ≠ 3) : ∀ {c1 : List IOper} {c2 : List IOper} {env envF : Env} {σ σF : Sto},(∀ x ∈ c1,compat x.op.kind y.op.kind = true ∧ apart x y = true) → (∀ x ∈ c1,x.op.kind = 3 → x.guard = none) →
  (y.op.kind = 1 → n ≤ σ.length ∧ ∀ v,ev env y.op.base = some v → below n v = true) → evOps calls bars (c1 ++ y :: c2) env σ = some (.norm,envF,σF) →
  ∃ v σ1 envF',act1 calls bars y env σ = some (v,σ1) ∧ evOps calls bars (c1 ++ c2) (putE env y.dst v) σ1 = some (.norm,envF',σF) ∧ EqAll envF envF'
 | [],c2,env,envF,σ,σF,_,_,_,h => by
  simp only [List.nil_append,evOps] at h ⊢
  cases h1 : evOp1 calls bars y env σ with
  | none => rw [h1] at h; cases h
  | some r1 =>
   rw [h1] at h
   obtain ⟨e1,env1,σ1⟩ := r1
   cases e1 with
   | norm =>
    obtain ⟨v,h2,rfl⟩ := act1_of h1
    exact ⟨v,σ1,envF,h2,h,EqAll.refl _⟩
   | exit id => cases h
   | ret => cases h
   | pan v => cases h
 | x :: c1,c2,env,envF,σ,σF,hc,hA,hb,h => by
  simp only [List.cons_append,evOps] at h
  cases h1 : evOp1 calls bars x env σ with
  | none => rw [h1] at h; cases h
  | some r1 =>
   rw [h1] at h
   obtain ⟨e1,env1,σx⟩ := r1
   cases e1 with
   | exit id => cases h
   | ret => cases h
   | pan v => cases h
   | norm =>
    obtain ⟨vx,hx,rfl⟩ := act1_of h1
    obtain ⟨hcomp,hap⟩ := hc x (by simp)
    obtain ⟨ap1,ap2,ap3,ap4⟩ := apart_spec hap
    have hbase : ev (putE env x.dst vx) y.op.base = ev env y.op.base := ev_eq (eqOn_put fun d hd hs => ap1 d hd (by simp only [IOper.use,List.mem_append]; exact .inl (base_use d hs)))
    have fin : ∀ {v : PV} {σ1 σ1' : Sto} {envF' : Env},evOps calls bars (c1 ++ c2) (putE (putE env x.dst vx) y.dst v) σ1' = some (.norm,envF',σF) → EqAll envF envF' → act1 calls bars y env σ = some (v,σ1) → act1 calls bars x (putE env y.dst v) σ1 = some (vx,σ1') →
      ∃ v σ1 envF',act1 calls bars y env σ = some (v,σ1) ∧ evOps calls bars (x :: c1 ++ c2) (putE env y.dst v) σ1 = some (.norm,envF',σF) ∧ EqAll envF envF' := by
     intro v σ1 σ1' envF' g1 g2 g3 g4
     obtain ⟨envF'',g5,g6⟩ := evOps_ext (put_swap env vx v (fun d hd => ap2 d hd)) g1
     refine ⟨v,σ1,envF'',g3,?_,g2.trans g6⟩
     simp only [List.cons_append,evOps]
     rw [evOp1_of g4]
     exact g5
    have xput : ∀ (v : PV) (τ : Sto),act1 calls bars x (putE env y.dst v) τ = act1 calls bars x env τ := fun v τ => act1_eq (eqOn_put ap3)
    have hlen : y.op.kind = 1 → n ≤ σx.length ∧ ∀ v,ev (putE env x.dst vx) y.op.base = some v → below n v = true := by
     intro hk
     obtain ⟨h2,h3⟩ := hb hk
     refine ⟨?_,by rw [hbase]; exact h3⟩
     rw [hk] at hcomp
     simp only [compat,Bool.or_eq_true,Bool.and_eq_true,beq_iff_eq] at hcomp
     rcases hcomp with (((((((hc | hc) | hc) | ⟨hc | hc,-⟩) | ⟨hc,-⟩) | ⟨-,hc⟩) | ⟨-,hc⟩) | ⟨-,hc⟩) | ⟨-,hc⟩
     ·rw [(act_P hc hx).1]; exact h2
     ·omega
     ·omega
     ·rw [(act_R hc (fun v _ => Agree.refl v σ) hx).1]; exact h2
     ·rw [act_Q hc hx]; exact h2
     ·obtain ⟨zero,hz⟩ : ∃ zero,x.op = .alloc zero := by
       cases ho : x.op <;> rw [ho] at hc <;> simp [IOp.kind] at hc
       exact ⟨_,rfl⟩
      rw [act_A hz (hA x (by simp) hc)] at hx
      cases hx
      simp; omega
     ·omega
     ·omega
     ·omega
     ·omega
    obtain ⟨v,σ1',envF',g1,g2,g3⟩ := pull (c1 := c1) (c2 := c2) hy3 (fun z hz => hc z (by simp [hz])) (fun z hz => hA z (by simp [hz])) hlen h
    have g1' : act1 calls bars y env σx = some (v,σ1') := by rw [← act1_eq (e := putE env x.dst vx) (eqOn_put ap1)]; exact g1
    simp only [compat,Bool.or_eq_true,Bool.and_eq_true,beq_iff_eq] at hcomp
    rcases hcomp with (((((((hc0 | hc0) | hc0) | ⟨hcx,hcy⟩) | ⟨hc3,hc1⟩) | ⟨hcr,hcg⟩) | ⟨hcr,hcm⟩) | ⟨hcr,hcm⟩) | ⟨hcr,hcm⟩
    ·obtain ⟨rfl,hall⟩ := act_P hc0 hx
     exact fin g2 g3 g1' (by rw [xput]; exact hall σ1')
    ·obtain ⟨rfl,hall⟩ := act_P hc0 g1'
     exact fin g2 g3 (hall σ) (by rw [xput]; exact hx)
    ·exact absurd hc0 hy3
    ·have ex : σx = σ := by
      rcases hcx with hcx | hcx
      ·exact (act_R hcx (fun v _ => Agree.refl v σ) hx).1
      ·exact act_Q hcx hx
     subst ex
     have ey : σ1' = σx := by
      rcases hcy with hcy | hcy
      ·exact (act_R hcy (fun v _ => Agree.refl v σx) g1').1
      ·exact act_Q hcy g1'
     subst ey
     exact fin g2 g3 g1' (by rw [xput]; exact hx)
    ·obtain ⟨zero,hz⟩ : ∃ zero,x.op = .alloc zero := by
      cases ho : x.op <;> rw [ho] at hc3 <;> simp [IOp.kind] at hc3
      exact ⟨_,rfl⟩
     have hxx := hx
     rw [act_A hz (hA x (by simp) hc3)] at hxx
     cases hxx
     obtain ⟨h2,h3⟩ := hb hc1
     obtain ⟨rfl,h4⟩ := act_R (τ := σ) hc1 (fun u hu => Agree.of (h3 u hu) fun i hi => by rw [List.getElem?_append_left (by omega)]) g1'
     exact fin g2 g3 h4 (by rw [xput]; exact hx)
    ·obtain ⟨rfl,-⟩ := act_R_ext (ext := []) hcr hx
     obtain ⟨ext,rfl⟩ := act_G hcg g1'
     exact fin g2 g3 g1' (by rw [xput]; exact (act_R_ext hcr hx).2)
    ·obtain ⟨rfl,-⟩ := act_R_ext (ext := []) hcr hx
     have hag : ∀ u,ev env x.op.base = some u → Agree u σx σ1' := by
      intro u hu
      unfold baseIn at ap4
      rw [hcr,hcm] at ap4
      simp only [bne_self_eq_false,Bool.false_or,Bool.false_and] at ap4
      split at ap4
      ·rename_i m hm
       rw [hm] at hu
       exact act_M hcm g1' (by simpa using ap4) hu
      ·cases ap4
     exact fin g2 g3 g1' (by rw [xput]; exact (act_R hcr hag hx).2)
    ·obtain ⟨rfl,-⟩ := act_R_ext (ext := []) hcr hx
     have hag : ∀ u,ev env x.op.base = some u → Agree u σx σ1' := by
      intro u hu
      unfold baseIn at ap4
      rw [hcr,hcm] at ap4
      simp only [bne_self_eq_false,Bool.false_or,Bool.false_and,Bool.and_false] at ap4
      split at ap4
      ·rename_i m hm
       rw [hm] at hu
       exact act_SM_agree hcm g1' (by simpa using ap4) hu
      ·cases ap4
     exact fin g2 g3 g1' (by rw [xput]; exact (act_R hcr hag hx).2)
    ·rcases act_SB hcr hx with ⟨rfl,hall⟩ | ⟨ix,obx,u,hu,htu,hlx,rfl,hallx⟩
     ·exact fin g2 g3 g1' (by rw [xput]; exact hall _)
     ·rcases act_SM hcm g1' with ⟨rfl,hall⟩ | ⟨iy,oby,hly,rfl,hav,hally⟩
      ·exact fin g2 g3 (hall σ) (by rw [xput]; exact hx)
      ·have hne : ix ≠ iy := by
        unfold baseIn at ap4
        rw [hcr,hcm] at ap4
        simp only [bne_self_eq_false,Bool.false_or,Bool.false_and,Bool.and_false] at ap4
        split at ap4
        ·rename_i m hm
         rw [hm] at hu
         intro e
         exact hav m (by simpa using ap4) u hu (by rw [htu,e])
        ·cases ap4
       refine fin g2 g3 (hally σ (by simp [List.getElem?_set,hne])) ?_
       rw [xput,hallx _ (by simp [List.getElem?_set,Ne.symm hne]),List.set_comm _ _ (Ne.symm hne)]
end
end Go.Ev


namespace Go.Ev
variable [CodeRel]
structure DEl where
 i : Nat
 a : Option Nat
 x : IOper
def getL (listed : Array Bool) (i : Nat) : Bool := listed.getD i true
def left (L : List DEl) (listed : Array Bool) : List DEl := L.filter fun e => !getL listed e.i
theorem mem_ready {ops : Array Oper} {listed : Array Bool} {i : Nat} : i ∈ Region.ready .any ops listed ↔ i < ops.size ∧ getL listed i = false ∧ ∃ o,ops[i]? = some o ∧ ∀ e ∈ o.after.toList,Region.binds .any e = true → listed.getD e.on false = true := by
 unfold Region.ready
 simp only [List.mem_filter,List.mem_range,Bool.and_eq_true,Bool.not_eq_true',getL]
 constructor
 ·rintro ⟨h1,h2,h3⟩
  refine ⟨h1,h2,ops[i],Array.getElem?_eq_getElem h1,fun e he hb => ?_⟩
  rw [Array.getElem?_eq_getElem h1] at h3
  simp only [Option.map_some,Option.getD_some,Array.all_eq_true'] at h3
  have := h3 e (Array.mem_toList_iff.1 he)
  simpa [hb] using this
 ·rintro ⟨h1,h2,o,ho,h3⟩
  refine ⟨h1,h2,?_⟩
  rw [ho]
  simp only [Option.map_some,Option.getD_some,Array.all_eq_true']
  intro e he
  cases hb : Region.binds .any e with
  | false => rfl
  | true => simpa using h3 e (Array.mem_toList_iff.2 he) hb
theorem left_nil_of {ops : Array Oper} {L : List DEl} {listed : Array Bool} (hsz : listed.size = ops.size) (hL : ∀ e ∈ L,e.i < ops.size) (hback : ∀ i o,ops[i]? = some o → ∀ e ∈ o.after.toList,Region.binds .any e = true → e.on < i) (h : Region.ready .any ops listed = []) : left L listed = [] ∧ ∀ i,i < ops.size → getL listed i = true := by
 have hall : ∀ i,i < ops.size → getL listed i = true := by
  intro i
  induction i using Nat.strongRecOn with
  | _ i ih =>
   intro hi
   cases hg : getL listed i with
   | true => rfl
   | false =>
    exfalso
    have : i ∈ Region.ready .any ops listed := mem_ready.2 ⟨hi,hg,ops[i],Array.getElem?_eq_getElem hi,fun e he hb => by
     have hlt := hback i _ (Array.getElem?_eq_getElem hi) e he hb
     have := ih e.on hlt (by omega)
     unfold getL at this
     rw [Array.getD_eq_getD_getElem?] at this ⊢
     rw [Array.getElem?_eq_getElem (by omega)] at this ⊢
     simpa using this⟩
    rw [h] at this; cases this
 refine ⟨?_,hall⟩
 unfold left
 rw [List.filter_eq_nil_iff]
 intro e he
 simp [hall e.i (hL e he)]
theorem getL_set {listed : Array Bool} {i j : Nat} (hi : i < listed.size) : getL (listed.setIfInBounds i true) j = (getL listed j || decide (i = j)) := by
 unfold getL
 rw [Array.getD_eq_getD_getElem?,Array.getD_eq_getD_getElem?]
 by_cases h : i = j
 ·subst h; rw [Array.getElem?_setIfInBounds_self_of_lt hi]; simp
 ·rw [Array.getElem?_setIfInBounds_ne h]; simp [h]
theorem left_set {L : List DEl} {listed : Array Bool} {c1 c2 : List DEl} {e : DEl} (hi : e.i < listed.size) (hnd : (L.map (·.i)).Nodup) (h : left L listed = c1 ++ e :: c2) : left L (listed.setIfInBounds e.i true) = c1 ++ c2 := by
 have h1 : left L (listed.setIfInBounds e.i true) = (left L listed).filter fun d => !decide (e.i = d.i) := by
  unfold left
  rw [List.filter_filter]
  congr 1
  funext d
  rw [getL_set hi]
  cases getL listed d.i <;> cases decide (e.i = d.i) <;> rfl
 have hnd' : ((left L listed).map (·.i)).Nodup := (List.Sublist.map _ List.filter_sublist).nodup hnd
 rw [h1,h] at *
 simp only [List.map_append,List.map_cons,List.nodup_append,List.nodup_cons,List.mem_map,List.mem_cons] at hnd'
 obtain ⟨n1,⟨n2,n3⟩,n4⟩ := hnd'
 rw [List.filter_append,List.filter_cons]
 simp only [decide_true,Bool.not_true,Bool.false_eq_true,if_false]
 congr 1
 ·rw [List.filter_eq_self]
  intro d hd
  have := n4 d.i ⟨d,hd,rfl⟩ e.i (.inl rfl)
  simp [Ne.symm this]
 ·rw [List.filter_eq_self]
  intro d hd
  have : e.i ≠ d.i := fun he => n2 ⟨d,hd,he.symm⟩
  simp [this]
theorem left_same {L : List DEl} {listed : Array Bool} {i : Nat} (hi : i < listed.size) (h : ∀ e ∈ L,e.i ≠ i) : left L (listed.setIfInBounds i true) = left L listed := by
 unfold left
 apply List.filter_congr
 intro d hd
 rw [getL_set hi]
 simp [Ne.symm (h d hd)]
def cnt (n : Nat) (listed : Array Bool) : Nat := (List.range n).countP fun i => !getL listed i
theorem countP_drop {p : Nat → Bool} {i : Nat} (hp : p i = true) : ∀ l : List Nat,(l.countP fun j => p j && !decide (i = j)) ≤ l.countP p ∧ (i ∈ l → (l.countP fun j => p j && !decide (i = j)) + 1 ≤ l.countP p)
 | [] => by simp
 | j :: r => by
  have ih := countP_drop hp r
  by_cases hij : i = j
  ·subst hij
   have e1 : ((i :: r).countP fun j => p j && !decide (i = j)) = (r.countP fun j => p j && !decide (i = j)) := List.countP_cons_of_neg (by simp)
   have e2 : (i :: r).countP p = r.countP p + 1 := List.countP_cons_of_pos hp
   rw [e1,e2]
   exact ⟨by have := ih.1; omega,fun _ => by have := ih.1; omega⟩
  ·have hd : (p j && !decide (i = j)) = p j := by simp [hij]
   have e1 : ((j :: r).countP fun j => p j && !decide (i = j)) = (r.countP fun j => p j && !decide (i = j)) + (if p j then 1 else 0) := by rw [List.countP_cons,hd]
   have e2 : (j :: r).countP p = r.countP p + (if p j then 1 else 0) := List.countP_cons
   rw [e1,e2]
   refine ⟨by have := ih.1; omega,fun hm => ?_⟩
   have hm' : i ∈ r := by
    cases hm with
    | head => exact absurd rfl hij
    | tail _ h => exact h
   have := ih.2 hm'
   omega
theorem cnt_set {n i : Nat} {listed : Array Bool} (hi : i < listed.size) (hn : i < n) (hg : getL listed i = false) : cnt n (listed.setIfInBounds i true) + 1 ≤ cnt n listed := by
 unfold cnt
 have hf : (fun j => !getL (listed.setIfInBounds i true) j) = fun j => (!getL listed j) && !decide (i = j) := by
  funext j; rw [getL_set hi,Bool.not_or]
 rw [hf]
 exact (countP_drop (p := fun j => !getL listed j) (by simp [hg]) _).2 (List.mem_range.2 hn)
theorem ready_zero {ops : Array Oper} {listed : Array Bool} (h : cnt ops.size listed = 0) : Region.ready .any ops listed = [] := by
 cases hr : Region.ready .any ops listed with
 | nil => rfl
 | cons i r =>
  exfalso
  have hm : i ∈ Region.ready .any ops listed := by rw [hr]; simp
  obtain ⟨h1,h2,-⟩ := mem_ready.1 hm
  unfold cnt at h
  rw [List.countP_eq_zero] at h
  have := h i (List.mem_range.2 h1)
  rw [h2] at this
  simp at this
theorem INV.adopt {bars : List Nat} {κ : Kn} {σ : Sto} {w : World} (h : INV bars κ σ w) {cs : List PV} {c : Array Value} {T : TypeId} {B : Nat} (hB : w.heap[B]? = some (.cells c T (0,0))) (hno : ∀ i,own κ σ i ≠ some B) (hM : ∀ o,κ.M B o = none) (hr : RelL κ cs c.toList) (h1 : ∀ v ∈ c.toList,v.oneCell' = true) (hb : below.belowAll σ.length cs = true) :
  INV bars (κ.at σ.length B) (σ ++ [.var cs]) w := by
 have hext := Ext.at κ σ.length B
 have hgen : ∀ i,i < σ.length → (κ.at σ.length B).gen i = κ.gen i := fun i hi => by simp [Kn.at,Nat.ne_of_lt hi]
 have hget : ∀ i ob,(σ ++ [Ob.var cs])[i]? = some ob → (i < σ.length ∧ σ[i]? = some ob) ∨ (i = σ.length ∧ ob = .var cs) := by
  intro i ob hi
  rcases Nat.lt_or_ge i σ.length with hlt | hge
  ·rw [List.getElem?_append_left hlt] at hi; exact .inl ⟨hlt,hi⟩
  ·rw [List.getElem?_append_right hge] at hi
   obtain hz | hz : i - σ.length = 0 ∨ 0 < i - σ.length := by omega
   ·rw [hz] at hi; simp at hi; exact .inr ⟨by omega,hi.symm⟩
   ·rw [List.getElem?_eq_none (by simp; omega)] at hi; cases hi
 have hown : ∀ i b,own (κ.at σ.length B) (σ ++ [.var cs]) i = some b → (i < σ.length ∧ own κ σ i = some b) ∨ (i = σ.length ∧ b = B) := by
  intro i b hi
  cases hs : (σ ++ [Ob.var cs])[i]? with
  | none => unfold own at hi; rw [hs] at hi; cases hi
  | some ob =>
   rw [own_eq hs] at hi
   rcases hget i ob hs with ⟨hlt,hs'⟩ | ⟨rfl,rfl⟩
   ·refine .inl ⟨hlt,?_⟩
    rw [own_eq hs']
    cases ob <;> first | (simpa [blkOf,Kn.at,Nat.ne_of_lt hlt] using hi) | (simp [blkOf] at hi)
   ·simp [blkOf,Kn.at] at hi; exact .inr ⟨rfl,hi.symm⟩
 refine ⟨fun i ob hi => ?_,fun i j b hi hj => ?_,h.mem,h.cap,fun i ob hi => ?_,fun n hn => ?_⟩
 ·rcases hget i ob hi with ⟨hlt,hs⟩ | ⟨rfl,rfl⟩
  ·exact obRel.keep hext hlt (hgen i hlt) (h.wf i ob hs) (fun b hb' => ⟨rfl,fun o => rfl⟩) (h.obs i ob hs)
  ·refine ⟨by simp [Kn.at],by simp [Kn.at],⟨c,T,by simpa [Kn.at] using hB,RelL.mono hext _ _ hb hr,h1⟩,fun o => ?_⟩
   simp only [Kn.at,if_true]
   exact hM o
 ·rcases hown i b hi with ⟨hlt,h2⟩ | ⟨hi1,hi2⟩ <;> rcases hown j b hj with ⟨hlt',h3⟩ | ⟨hj1,hj2⟩
  ·exact h.inj i j b h2 h3
  ·subst hj2; exact absurd h2 (hno i)
  ·subst hi2; exact absurd h3 (hno j)
  ·omega
 ·rcases hget i ob hi with ⟨hlt,hs⟩ | ⟨rfl,rfl⟩
  ·exact obBelow_mono (by simp) ob (h.wf i ob hs)
  ·exact belowAll_mono (by simp) cs hb
 ·obtain ⟨hle,hw⟩ := h.wfb n hn
  refine ⟨by simp; omega,fun i ob hin hi => ?_⟩
  rcases hget i ob hi with ⟨hlt,hs⟩ | ⟨rfl,rfl⟩
  ·exact hw i ob hin hs
  ·omega
end Go.Ev


namespace Go.Ev
variable [CodeRel]
def chkEl (P : Program) (nt : Nat) (ops : Array Oper) (e : DEl) : Bool := match e.a with
 | none => (match ops[e.i]? with | some o => chkOper P nt ops e.x o | none => false)
 | some iA => match ops[iA]?,ops[e.i]?,e.x.dst,e.x.op,e.x.guard with
  | some oA,some oS,some d,.box n v,none => oA.dst == some d && decide (d < nt) && oA.guard.isNone && oS.guard.isNone && oS.dst.isNone &&
   (match oA.op,oS.op with
    | .alloc t,.store t' (.tmp d') v' => d' == d && chkO v v' && szIs P t' n && (match P.info? t with | some i => (match i.zero with | some z => z.cells.size == n | none => false) | none => false)
    | _,_ => false)
  | _,_,_,_,_ => false
structure ST (P : Program) (nt : Nat) (ops : Array Oper) (L : List DEl) (anc : Nat → Nat → Bool) : Prop where
 el : ∀ e ∈ L,chkEl P nt ops e = true
 nd : (L.map (·.i)).Nodup
 lt : ∀ e ∈ L,e.i < ops.size
 cover : ∀ i,i < ops.size → (∃ e ∈ L,e.i = i) ∨ ∃ e ∈ L,e.a = some i
 alone : ∀ e ∈ L,∀ iA,e.a = some iA → anc e.i iA = true ∧ ∀ e' ∈ L,e'.i ≠ iA ∧ (e'.a = some iA → e' = e)
 dst : ∀ e ∈ L,e.a.isSome = true → ∀ e' ∈ L,e' ≠ e → ∀ d,e.x.dst = some d → e'.x.dst ≠ some d
 pairs : L.Pairwise fun e' e => anc e.i e'.i = true ∨ (compat e'.x.op.kind e.x.op.kind = true ∧ apart e'.x e.x = true)
 used : L.Pairwise fun e' e => e.a.isSome = true → ∀ d,e.x.dst = some d → d ∉ e'.x.use
 noA : ∀ e ∈ L,e.x.op.kind ≠ 3
 self : ∀ e ∈ L,e.a.isSome = true → ∀ d,e.x.dst = some d → d ∉ e.x.use
 base : ∀ e ∈ L,e.x.op.kind = 1 → e.a = none
 back : ∀ i o,ops[i]? = some o → ∀ e ∈ o.after.toList,Region.binds .any e = true → e.on < i
 anc : ∀ j o,ops[j]? = some o → ∀ i,anc j i = true → ∃ e ∈ o.after.toList,Region.binds .any e = true ∧ (e.on = i ∨ anc e.on i = true)
def PendAt (κ : Kn) (σ : Sto) (w0 w : World) (a : Act) (e : DEl) (B : Nat) : Prop :=
 ∃ d n v c T,e.x.dst = some d ∧ e.x.op = .box n v ∧ a.tmps.getD d undef = .pointer (some ⟨B,0,none⟩) ∧ w.heap[B]? = some (.cells c T (0,0)) ∧ c.size = n ∧ (∀ i,own κ σ i ≠ some B) ∧ (∀ o,κ.M B o = none) ∧ w0.heap.size ≤ B
structure DI (nt : Nat) (ops : Array Oper) (L : List DEl) (anc : Nat → Nat → Bool) (calls : Sem') (bars : List Nat) (κ0 : Kn) (σ0 : Sto) (w0 : World) (a0 : Act) (eF : Env) (σF : Sto) (listed : Array Bool) (a : Act) (w : World) (κ : Kn) (σ : Sto) (env : Env) : Prop where
 inv : INV bars κ σ w
 kept : Kept σ0.length κ0 σ0 w0 κ σ w
 len : σ0.length ≤ σ.length
 size : a.tmps.size = nt
 defers : a.defers = a0.defers
 envR : ENV κ σ.length env a.tmps
 run : ∃ eF',evOps calls bars ((left L listed).map (·.x)) env σ = some (.norm,eF',σF) ∧ EqAll eF eF'
 pend : ∀ e ∈ left L listed,∀ iA,e.a = some iA → getL listed iA = true → ∃ B,PendAt κ σ w0 w a e B
 dist : ∀ e ∈ left L listed,∀ e' ∈ left L listed,(∃ iA,e.a = some iA ∧ getL listed iA = true) → (∃ iA,e'.a = some iA ∧ getL listed iA = true) → ∀ B,PendAt κ σ w0 w a e B → PendAt κ σ w0 w a e' B → e = e'
 lsz : listed.size = ops.size
 down : ∀ k,k < ops.size → getL listed k = true → ∀ i,anc k i = true → getL listed i = true
theorem left_split {L : List DEl} {listed : Array Bool} {e : DEl} (he : e ∈ L) (hg : getL listed e.i = false) : ∃ c1 c2,left L listed = c1 ++ e :: c2 := by
 have : e ∈ left L listed := by
  unfold left
  rw [List.mem_filter]
  exact ⟨he,by simp [hg]⟩
 obtain ⟨c1,c2,h⟩ := List.append_of_mem this
 exact ⟨c1,c2,h⟩
theorem mem_left {L : List DEl} {listed : Array Bool} {e : DEl} : e ∈ left L listed ↔ e ∈ L ∧ getL listed e.i = false := by
 unfold left
 rw [List.mem_filter]
 simp
theorem getD_set_ne {t : Array Value} {d d' : Nat} {x : Value} (h : d ≠ d') : (t.setIfInBounds d x).getD d' undef = t.getD d' undef := by
 rw [Array.getD_eq_getD_getElem?,Array.getD_eq_getD_getElem?,Array.getElem?_setIfInBounds_ne h]
section
variable {P : Program} {nt : Nat} {ops : Array Oper} {L : List DEl} {anc : Nat → Nat → Bool} {calls : Sem'} {bars : List Nat} {κ0 : Kn} {σ0 : Sto} {w0 : World} {a0 : Act} {eF : Env} {σF : Sto} {listed : Array Bool} {a : Act} {w : World} {κ : Kn} {σ : Sto} {env : Env}
theorem DI.anc_done (st : ST P nt ops L anc) (d : DI nt ops L anc calls bars κ0 σ0 w0 a0 eF σF listed a w κ σ env) {j : Nat} (hj : j ∈ Region.ready .any ops listed) : ∀ i,anc j i = true → getL listed i = true := by
 obtain ⟨h1,h2,o,ho,h3⟩ := mem_ready.1 hj
 intro i hi
 obtain ⟨e,he,hb,hc⟩ := st.anc j o ho i hi
 have hlt := st.back j o ho e he hb
 have hon : getL listed e.on = true := by
  have := h3 e he hb
  unfold getL
  rw [Array.getD_eq_getD_getElem?] at this ⊢
  rw [Array.getElem?_eq_getElem (by rw [d.lsz]; omega)] at this ⊢
  simpa using this
 rcases hc with rfl | hc
 ·exact hon
 ·exact d.down e.on (by omega) hon i hc
theorem DI.down_set (d : DI nt ops L anc calls bars κ0 σ0 w0 a0 eF σF listed a w κ σ env) {j : Nat} (hjs : j < ops.size) (hanc : ∀ i,anc j i = true → getL listed i = true) : ∀ k,k < ops.size → getL (listed.setIfInBounds j true) k = true → ∀ i,anc k i = true → getL (listed.setIfInBounds j true) i = true := by
 intro k hk hg i hi
 rw [getL_set (by rw [d.lsz]; exact hjs)] at hg ⊢
 simp only [Bool.or_eq_true,decide_eq_true_eq] at hg ⊢
 rcases hg with hg | rfl
 ·exact .inl (d.down k hk hg i hi)
 ·exact .inl (hanc i hi)
theorem PendAt.keep {κ' : Kn} {σ' : Sto} {w' : World} {a' : Act} {e : DEl} {B : Nat} (hk : Kept σ.length κ σ w κ' σ' w') (ht : ∀ d,e.x.dst = some d → a'.tmps.getD d undef = a.tmps.getD d undef) (h : PendAt κ σ w0 w a e B) : PendAt κ' σ' w0 w' a' e B := by
 obtain ⟨d,n,v,c,T,h1,h2,h3,h4,h5,h6,h7,h8⟩ := h
 have hlt : B < w.heap.size := (Array.getElem?_eq_some_iff.1 h4).1
 refine ⟨d,n,v,c,T,h1,h2,by rw [ht d h1]; exact h3,by rw [hk.keep B hlt h6]; exact h4,h5,fun i hi => ?_,fun o => ?_,h8⟩
 ·rcases hk.own i B hi with ⟨j,hj⟩ | hge
  ·exact h6 j hj
  ·omega
 ·cases hm : κ'.M B o with
  | none => rfl
  | some u =>
   rcases hk.M B o u hm with hm' | ⟨j,hj⟩ | hge
   ·rw [h7 o] at hm'; cases hm'
   ·exact absurd hj (h6 j)
   ·omega
theorem PendAt.same {e : DEl} {B B' : Nat} (h : PendAt κ σ w0 w a e B) (h' : PendAt κ σ w0 w a e B') : B = B' := by
 obtain ⟨d,n,v,c,T,h1,-,h3,-⟩ := h
 obtain ⟨d',n',v',c',T',h1',-,h3',-⟩ := h'
 rw [h1] at h1'; cases h1'
 rw [h3] at h3'
 cases h3'; rfl
theorem PendAt.back {κ' : Kn} {σ' : Sto} {w' : World} {a' : Act} {e : DEl} {B B' : Nat} (h : PendAt κ σ w0 w a e B') (h' : PendAt κ' σ' w0 w' a' e B) (ht : ∀ d,e.x.dst = some d → a'.tmps.getD d undef = a.tmps.getD d undef) : PendAt κ σ w0 w a e B := by
 have : B = B' := by
  obtain ⟨d,n,v,c,T,h1,-,h3,-⟩ := h
  obtain ⟨d',n',v',c',T',h1',-,h3',-⟩ := h'
  rw [h1] at h1'; cases h1'
  rw [ht d h1,h3] at h3'
  cases h3'; rfl
 rw [this]; exact h
end
end Go.Ev


namespace Go.Ev
variable [CodeRel]
theorem chkO_t (m : Nat) : chkO (.t m) (.tmp m) = true := by simp [chkO]
theorem chkOp_base {P : Program} {x : IOp} {o : Op} (h : chkOp P x o = true) (hk : x.kind = 1) : ∃ y,chkO x.base y = true := by
 cases x <;> simp only [IOp.kind] at hk <;> try (exact absurd hk (by decide))
 all_goals
  cases o <;> simp only [chkOp,Bool.and_eq_true,Bool.false_eq_true] at h
  all_goals first
   | exact ⟨_,chkO_t _⟩
   | (unfold chkCall at h; split at h <;> simp_all; done)
   | exact ⟨_,h.1.1⟩
   | exact ⟨_,h.1.1.1.1⟩
   | exact ⟨_,h.1.1.1.2⟩
def EqOff (d : Nat) (e e' : Env) : Prop := ∀ s,s ≠ d → look e s = look e' s
theorem EqOff.put {d : Nat} {e e' : Env} (h : EqOff d e e') (t : Option Nat) (v : PV) : EqOff d (putE e t v) (putE e' t v) := by
 cases t with
 | none => exact h
 | some t => intro s hs; simp only [putE,look]; split <;> first | rfl | exact h s hs
theorem EqOff.all {d : Nat} {e e' : Env} (h : EqOff d e e') (v : PV) : EqAll (putE e (some d) v) (putE e' (some d) v) := by
 intro s
 simp only [putE,look]
 split
 ·rfl
 ·rename_i hs; exact h s (Ne.symm hs)
def rm (d : Nat) (e : Env) : Env := e.filter fun p => p.1 != d
theorem look_rm {d s : Nat} : ∀ {e : Env},look (rm d e) s = if s = d then none else look e s
 | [] => by simp [rm,look]
 | (t,v) :: r => by
  have ih := look_rm (d := d) (s := s) (e := r)
  unfold rm at ih ⊢
  rw [List.filter_cons]
  by_cases htd : t = d
  ·subst htd
   simp only [bne_self_eq_false,Bool.false_eq_true,if_false]
   rw [ih]
   by_cases hs : s = t
   ·simp [hs]
   ·simp [hs,look,Ne.symm hs]
  ·have : (t != d) = true := by simp [htd]
   simp only [this,if_true,look]
   by_cases hs : t = s
   ·subst hs; simp [htd]
   ·simp only [if_neg hs]; exact ih
theorem rm_off (d : Nat) (e : Env) : EqOff d e (rm d e) := fun s hs => by rw [look_rm,if_neg hs]
theorem ENV.rm {κ : Kn} {n : Nat} {env : Env} {tmps : Array Value} (h : ENV κ n env tmps) {d : Nat} {x : Value} : ENV κ n (Ev.rm d env) (tmps.setIfInBounds d x) := by
 have g : ∀ s v,look (Ev.rm d env) s = some v → s ≠ d ∧ look env s = some v := by
  intro s v hs
  rw [look_rm] at hs
  split at hs
  ·cases hs
  ·rename_i hne; exact ⟨hne,hs⟩
 refine ⟨fun s v hs => ?_,fun s v hs => h.wf s v (g s v hs).2,fun s v hs => by simpa using h.lt s v (g s v hs).2⟩
 rw [getD_set_ne (Ne.symm (g s v hs).1)]
 exact h.rel s v (g s v hs).2
theorem off_run {calls : Sem'} {bars : List Nat} {d : Nat} {y : IOper} {c2 : List IOper} (hd : y.dst = some d) (hy : d ∉ y.use) : ∀ {c1 : List IOper} {e e' eF : Env} {σ σF : Sto},(∀ x ∈ c1,d ∉ x.use) → EqOff d e e' → evOps calls bars (c1 ++ y :: c2) e σ = some (.norm,eF,σF) →
  ∃ eF',evOps calls bars (c1 ++ y :: c2) e' σ = some (.norm,eF',σF) ∧ EqAll eF eF'
 | [],e,e',eF,σ,σF,_,ho,h => by
  simp only [List.nil_append,evOps] at h ⊢
  cases h1 : evOp1 calls bars y e σ with
  | none => rw [h1] at h; cases h
  | some r1 =>
   rw [h1] at h
   obtain ⟨e1,env1,σ1⟩ := r1
   cases e1 with
   | norm =>
    obtain ⟨v,h2,rfl⟩ := act1_of h1
    have h3 : act1 calls bars y e' σ = some (v,σ1) := by
     rw [← act1_eq (e := e) (fun s hs => ho s fun he => hy (by rw [← he]; exact hs))]; exact h2
    rw [evOp1_of h3]
    simp only
    rw [hd] at h ⊢
    exact evOps_ext (ho.all v) h
   | exit id => cases h
   | ret => cases h
   | pan v => cases h
 | x :: c1,e,e',eF,σ,σF,hx,ho,h => by
  simp only [List.cons_append,evOps] at h ⊢
  cases h1 : evOp1 calls bars x e σ with
  | none => rw [h1] at h; cases h
  | some r1 =>
   rw [h1] at h
   obtain ⟨e1,env1,σ1⟩ := r1
   cases e1 with
   | norm =>
    obtain ⟨v,h2,rfl⟩ := act1_of h1
    have h3 : act1 calls bars x e' σ = some (v,σ1) := by
     rw [← act1_eq (e := e) (fun s hs => ho s fun he => hx x (by simp) (by rw [← he]; exact hs))]; exact h2
    rw [evOp1_of h3]
    exact off_run hd hy (fun z hz => hx z (by simp [hz])) (ho.put _ _) h
   | exit id => cases h
   | ret => cases h
   | pan v => cases h
section
variable {P : Program} {nt : Nat} {ops : Array Oper} {L : List DEl} {anc : Nat → Nat → Bool} {calls : Sem'} {bars : List Nat} {κ0 : Kn} {σ0 : Sto} {w0 : World} {a0 : Act} {eF : Env} {σF : Sto} {listed : Array Bool} {a : Act} {w : World} {κ : Kn} {σ : Sto} {env : Env}
theorem DI.apart (st : ST P nt ops L anc) (d : DI nt ops L anc calls bars κ0 σ0 w0 a0 eF σF listed a w κ σ env) {e : DEl} {c1 c2 : List DEl} (hs : left L listed = c1 ++ e :: c2) (hanc : ∀ i,anc e.i i = true → getL listed i = true) : ∀ x ∈ c1,compat x.x.op.kind e.x.op.kind = true ∧ Ev.apart x.x e.x = true := by
 intro x hx
 have hp : (left L listed).Pairwise _ := List.Pairwise.sublist List.filter_sublist st.pairs
 rw [hs,List.pairwise_append] at hp
 rcases hp.2.2 x hx e (by simp) with h | h
 ·have hxl : x ∈ left L listed := by rw [hs]; simp [hx]
  have := hanc x.i h
  rw [(mem_left.1 hxl).2] at this; cases this
 ·exact h
theorem DI.pulled (st : ST P nt ops L anc) (d : DI nt ops L anc calls bars κ0 σ0 w0 a0 eF σF listed a w κ σ env) {e : DEl} {c1 c2 : List DEl} (he : e ∈ L) (hs : left L listed = c1 ++ e :: c2) (hanc : ∀ i,anc e.i i = true → getL listed i = true) :
  ∃ v σ1 envF',act1 calls bars e.x env σ = some (v,σ1) ∧ evOps calls bars ((c1 ++ c2).map (·.x)) (putE env e.x.dst v) σ1 = some (.norm,envF',σF) ∧ EqAll eF envF' := by
 obtain ⟨eF',hrun,heq⟩ := d.run
 rw [hs,List.map_append,List.map_cons] at hrun
 obtain ⟨v,σ1,envF',h1,h2,h3⟩ := pull (n := σ.length) (st.noA e he) (fun x hx => by
  obtain ⟨z,hz,rfl⟩ := List.mem_map.1 hx
  exact d.apart st hs hanc z hz) (fun x hx hk => by
  obtain ⟨z,hz,rfl⟩ := List.mem_map.1 hx
  have hzl : z ∈ left L listed := by rw [hs]; simp [hz]
  exact absurd hk (st.noA z (mem_left.1 hzl).1)) (fun hk => ⟨Nat.le_refl _,fun v hv => by
   have hc := st.el e he
   have ha := st.base e he hk
   unfold chkEl at hc
   rw [ha] at hc
   simp only at hc
   split at hc
   ·rename_i o ho
    simp only [chkOper,Bool.and_eq_true] at hc
    obtain ⟨y,hy⟩ := chkOp_base hc.2 hk
    exact (chkO_spec d.envR hy hv).2
   ·cases hc⟩) hrun
 exact ⟨v,σ1,envF',h1,by rw [List.map_append]; exact h2,heq.trans h3⟩
theorem draw_plain {ro : Option Nat} (hcalls : CallsOK P calls) (st : ST P nt ops L anc) (d : DI nt ops L anc calls bars κ0 σ0 w0 a0 eF σF listed a w κ σ env) {e : DEl} (he : e ∈ L) (ha : e.a = none) (hj : e.i ∈ Region.ready .any ops listed) {Q : Exit → Act → World → Prop} {K : Act → World → Prop}
  (hK : ∀ a' w' κ' σ' env',DI nt ops L anc calls bars κ0 σ0 w0 a0 eF σF (listed.setIfInBounds e.i true) a' w' κ' σ' env' → K a' w') : wpOpIn (FW ro) 0 P ops Q e.i K a w := by
 have hanc := d.anc_done st hj
 obtain ⟨hlt,hg,o,ho,-⟩ := mem_ready.1 hj
 obtain ⟨c1,c2,hs⟩ := left_split he hg
 obtain ⟨v,σ1,envF',h1,h2,h3⟩ := d.pulled st he hs hanc
 have hc := st.el e he
 unfold chkEl at hc
 rw [ha] at hc
 simp only [ho] at hc
 have hls : e.i < listed.size := by rw [d.lsz]; exact hlt
 refine op_step hcalls ho hc d.inv d.envR d.size (evOp1_of h1) fun ex a' w' κ' hp htm hdf => ?_
 obtain ⟨rfl,henv⟩ := hp.ex
 have hleft : left L (listed.setIfInBounds e.i true) = c1 ++ c2 := left_set hls st.nd hs
 have hsub : ∀ z ∈ left L (listed.setIfInBounds e.i true),z ∈ left L listed ∧ z ≠ e := by
  intro z hz
  have hz' := mem_left.1 hz
  have hzl : z ∈ left L listed := by rw [hleft] at hz; rw [hs]; simp at hz ⊢; rcases hz with h | h <;> simp [h]
  refine ⟨hzl,fun hze => ?_⟩
  subst hze
  have := hz'.2
  rw [getL_set hls] at this
  simp at this
 have hlst : ∀ z ∈ L,∀ iA,z.a = some iA → getL (listed.setIfInBounds e.i true) iA = true → getL listed iA = true := by
  intro z hz iA hza hgl
  rw [getL_set hls] at hgl
  simp only [Bool.or_eq_true,decide_eq_true_eq] at hgl
  rcases hgl with h | h
  ·exact h
  ·exact absurd h ((st.alone z hz iA hza).2 e he).1
 have htm' : ∀ z ∈ L,z.a.isSome = true → z ≠ e → ∀ q,z.x.dst = some q → a'.tmps.getD q undef = a.tmps.getD q undef := by
  intro z hz hza hne q hq
  exact htm q (st.dst z hz hza e he (Ne.symm hne) q hq)
 refine hK a' w' κ' σ1 _ ⟨hp.inv,d.kept.trans hp.kept d.len,Nat.le_trans d.len hp.len,hp.size.trans d.size,hdf.trans d.defers,henv,⟨envF',by rw [hleft]; exact h2,h3⟩,?_,?_,by simpa using d.lsz,d.down_set hlt hanc⟩
 ·intro z hz iA hza hgl
  obtain ⟨hzl,hne⟩ := hsub z hz
  have hzL := (mem_left.1 hzl).1
  obtain ⟨B,hB⟩ := d.pend z hzl iA hza (hlst z hzL iA hza hgl)
  exact ⟨B,hB.keep hp.kept (htm' z hzL (by rw [hza]; rfl) hne)⟩
 ·intro z hz z' hz' ⟨iA,hza,hgl⟩ ⟨iA',hza',hgl'⟩ B hB hB'
  obtain ⟨hzl,hne⟩ := hsub z hz
  obtain ⟨hzl',hne'⟩ := hsub z' hz'
  have hzL := (mem_left.1 hzl).1
  have hzL' := (mem_left.1 hzl').1
  have g := hlst z hzL iA hza hgl
  have g' := hlst z' hzL' iA' hza' hgl'
  obtain ⟨B1,hB1⟩ := d.pend z hzl iA hza g
  obtain ⟨B2,hB2⟩ := d.pend z' hzl' iA' hza' g'
  exact d.dist z hzl z' hzl' ⟨iA,hza,g⟩ ⟨iA',hza',g'⟩ B (hB1.back hB (htm' z hzL (by rw [hza]; rfl) hne)) (hB2.back hB' (htm' z' hzL' (by rw [hza']; rfl) hne'))
end
end Go.Ev


namespace Go.Ev
variable [CodeRel]
section
variable {P : Program} {nt : Nat} {ops : Array Oper} {L : List DEl} {anc : Nat → Nat → Bool} {calls : Sem'} {bars : List Nat} {κ0 : Kn} {σ0 : Sto} {w0 : World} {a0 : Act} {eF : Env} {σF : Sto} {listed : Array Bool} {a : Act} {w : World} {κ : Kn} {σ : Sto} {env : Env}
theorem chkEl_fused {e : DEl} {iA : Nat} (h : chkEl P nt ops e = true) (ha : e.a = some iA) : ∃ oA oS d n v t t' v' i i' z,ops[iA]? = some oA ∧ ops[e.i]? = some oS ∧ e.x = ⟨some d,.box n v,none⟩ ∧ oA.dst = some d ∧ d < nt ∧ oA.guard = none ∧ oS.guard = none ∧ oS.dst = none ∧ oA.op = .alloc t ∧ oS.op = .store t' (.tmp d) v' ∧ chkO v v' = true ∧ P.info? t' = some i' ∧ i'.size = n ∧ P.info? t = some i ∧ i.zero = some z ∧ z.cells.size = n := by
 unfold chkEl at h
 rw [ha] at h
 simp only at h
 split at h
 ·rename_i oA oS d n v hA hS hd hop hg
  simp only [Bool.and_eq_true,beq_iff_eq,decide_eq_true_eq,Option.isNone_iff_eq_none] at h
  obtain ⟨⟨⟨⟨⟨h1,h2⟩,h3⟩,h4⟩,h5⟩,h6⟩ := h
  split at h6
  ·rename_i t t' d' v' hoA hoS
   simp only [Bool.and_eq_true,beq_iff_eq] at h6
   obtain ⟨⟨⟨rfl,h7⟩,h8⟩,h9⟩ := h6
   obtain ⟨i',h10,h11⟩ := szIs_spec h8
   split at h9
   ·rename_i i hi
    split at h9
    ·rename_i z hz
     simp only [beq_iff_eq] at h9
     obtain ⟨ei,ea,⟨ed,eo,eg⟩⟩ := e
     simp only at hd hop hg
     subst hd hop hg
     exact ⟨oA,oS,d',n,v,t,t',v',i,i',z,hA,hS,rfl,h1,h2,h3,h4,h5,hoA,hoS,h7,h10,h11,hi,hz,h9⟩
    ·cases h9
   ·cases h9
  ·cases h6
 ·cases h
theorem draw_alloc {ro : Option Nat} (st : ST P nt ops L anc) (d : DI nt ops L anc calls bars κ0 σ0 w0 a0 eF σF listed a w κ σ env) {e : DEl} (he : e ∈ L) {iA : Nat} (ha : e.a = some iA) (hj : iA ∈ Region.ready .any ops listed) {Q : Exit → Act → World → Prop} {K : Act → World → Prop}
  (hK : ∀ a' w' κ' σ' env',DI nt ops L anc calls bars κ0 σ0 w0 a0 eF σF (listed.setIfInBounds iA true) a' w' κ' σ' env' → K a' w') : wpOpIn (FW ro) 0 P ops Q iA K a w := by
 have hanc := d.anc_done st hj
 obtain ⟨hlt,hg,-⟩ := mem_ready.1 hj
 have hls : iA < listed.size := by rw [d.lsz]; exact hlt
 obtain ⟨oA,oS,dd,n,v,t,t',v',i,i',z,hA,hS,hx,hdA,hdn,hgA,hgS,hdS,hoA,hoS,hv,hti',hs',hti,hz,hzs⟩ := chkEl_fused (st.el e he) ha
 have hei : getL listed e.i = false := by
  cases hge : getL listed e.i with
  | false => rfl
  | true =>
   have := d.down e.i (st.lt e he) hge iA (st.alone e he iA ha).1
   rw [hg] at this; cases this
 obtain ⟨c1,c2,hs⟩ := left_split he hei
 have hrun : (execOp a.eval oA).run P w = .ok (.value (.pointer (some ⟨w.heap.size,0,none⟩))) (w.alloc (.cells z.cells t)) := by
  simp [execOp,hoA,Instr.alloc,zeroValue,typeInfo,hti,hz,newVar,newRow]
 unfold wpOpIn
 simp only [hA]
 rw [if_pos (by unfold Region.wanted; rw [hgA])]
 refine ⟨fun _ _ => trivial,?_⟩
 rw [Oper.semAt_eq _ _ _ (by rw [hoA]; simp)]
 rw [hrun]
 show K (a.put oA.dst _) _
 rw [hdA]
 obtain ⟨g1,g2⟩ := INV.more (w' := w.alloc (.cells z.cells t)) (κ' := κ) d.inv (Ext.refl _ _) (fun _ _ => rfl) (by show _ ≤ (w.heap.push _).size; simp) (fun b hb => by show (w.heap.push _)[b]? = _; exact heap_push_lt hb) (fun _ _ _ => rfl)
  (fun b o u hm => by
   have hlt := cell_lt (d.inv.mem b o u hm)
   have := d.inv.mem b o u hm
   simp only [World.cell?] at this ⊢
   show (match (w.heap.push _)[b]? with | some (.cells c _ _) => _ | _ => _) = _
   rw [heap_push_lt hlt]; exact this)
  (fun b hb => by
   obtain ⟨c,T,fr,h,hsz⟩ := d.inv.cap b hb
   exact ⟨c,T,fr,by show (w.heap.push _)[b]? = _; rw [heap_push_lt (Array.getElem?_eq_some_iff.1 h).1]; exact h,hsz⟩) rfl rfl rfl
 have hleft : left L (listed.setIfInBounds iA true) = left L listed := left_same hls fun z hz => ((st.alone e he iA ha).2 z hz).1
 have hput : (a.put (some dd) (.pointer (some ⟨w.heap.size,0,none⟩))).tmps = a.tmps.setIfInBounds dd (.pointer (some ⟨w.heap.size,0,none⟩)) := rfl
 have hddn : e.x.dst = some dd := by rw [hx]
 have htm : ∀ y ∈ L,y.a.isSome = true → y ≠ e → ∀ q,y.x.dst = some q → (a.tmps.setIfInBounds dd (.pointer (some ⟨w.heap.size,0,none⟩))).getD q undef = a.tmps.getD q undef := by
  intro y hy hya hne q hq
  refine getD_set_ne fun hq' => ?_
  subst hq'
  exact st.dst y hy hya e he (Ne.symm hne) dd hq hddn
 have hlst : ∀ y ∈ L,y ≠ e → ∀ iB,y.a = some iB → getL (listed.setIfInBounds iA true) iB = true → getL listed iB = true := by
  intro y hy hne iB hyb hgl
  rw [getL_set hls] at hgl
  simp only [Bool.or_eq_true,decide_eq_true_eq] at hgl
  rcases hgl with h | h
  ·exact h
  ·subst h
   exact absurd (((st.alone e he iA ha).2 y hy).2 hyb) hne
 have hnew : PendAt κ σ w0 (w.alloc (.cells z.cells t)) (a.put (some dd) (.pointer (some ⟨w.heap.size,0,none⟩))) e w.heap.size := by
  refine ⟨dd,n,v,z.cells,t,hddn,by rw [hx],?_,?_,hzs,fun j hj => ?_,d.inv.M_fresh (Nat.le_refl _),d.kept.size⟩
  ·rw [hput,Array.getD_eq_getD_getElem?,Array.getElem?_setIfInBounds_self_of_lt (by rw [d.size]; exact hdn)]; rfl
  ·exact alloc_new _ _
  ·have := own_lt d.inv hj; omega
 have hold : ∀ y ∈ left L listed,y ≠ e → ∀ iB,y.a = some iB → getL (listed.setIfInBounds iA true) iB = true → ∃ B,PendAt κ σ w0 w a y B ∧ PendAt κ σ w0 (w.alloc (.cells z.cells t)) (a.put (some dd) (.pointer (some ⟨w.heap.size,0,none⟩))) y B ∧ B < w.heap.size := by
  intro y hy hne iB hyb hgl
  have hyL := (mem_left.1 hy).1
  obtain ⟨B,hB⟩ := d.pend y hy iB hyb (hlst y hyL hne iB hyb hgl)
  refine ⟨B,hB,hB.keep g2 (htm y hyL (by rw [hyb]; rfl) hne),?_⟩
  obtain ⟨_,_,_,c,T,-,-,-,h4,-⟩ := hB
  exact (Array.getElem?_eq_some_iff.1 h4).1
 refine hK _ _ κ σ (rm dd env) ⟨g1,d.kept.trans g2 d.len,d.len,(put_size _ _ _).trans d.size,(put_defers _ _ _).trans d.defers,?_,?_,?_,?_,by simpa using d.lsz,d.down_set hlt hanc⟩
 ·rw [hput]; exact d.envR.rm
 ·rw [hleft,hs,List.map_append,List.map_cons]
  obtain ⟨eF',hr,heq⟩ := d.run
  rw [hs,List.map_append,List.map_cons] at hr
  have hp : (left L listed).Pairwise _ := List.Pairwise.sublist List.filter_sublist st.used
  rw [hs,List.pairwise_append] at hp
  obtain ⟨eF'',h1,h2⟩ := off_run hddn (st.self e he (by rw [ha]; rfl) dd hddn) (fun y hy => by
   obtain ⟨q,hq,rfl⟩ := List.mem_map.1 hy
   exact hp.2.2 q hq e (by simp) (by rw [ha]; rfl) dd hddn) (rm_off dd env) hr
  exact ⟨eF'',h1,heq.trans h2⟩
 ·intro y hy iB hyb hgl
  rw [hleft] at hy
  by_cases hye : y = e
  ·subst hye
   exact ⟨_,hnew⟩
  ·obtain ⟨B,-,hB,-⟩ := hold y hy hye iB hyb hgl
   exact ⟨B,hB⟩
 ·intro y hy y' hy' ⟨iB,hyb,hgl⟩ ⟨iB',hyb',hgl'⟩ B hB hB'
  rw [hleft] at hy hy'
  by_cases hye : y = e
  ·subst hye
   by_cases hye' : y' = y
   ·exact hye'.symm
   ·obtain ⟨B1,-,h2,h3⟩ := hold y' hy' hye' iB' hyb' hgl'
    have e1 := hB.same hnew
    have e2 := hB'.same h2
    omega
  ·obtain ⟨B1,h1,h2,h3⟩ := hold y hy hye iB hyb hgl
   have e1 := hB.same h2
   by_cases hye' : y' = e
   ·subst hye'
    have e2 := hB'.same hnew
    omega
   ·obtain ⟨B2,h1',h2',h3'⟩ := hold y' hy' hye' iB' hyb' hgl'
    have e2 := hB'.same h2'
    subst e1; subst e2
    exact d.dist y hy y' hy' ⟨iB,hyb,hlst y (mem_left.1 hy).1 hye iB hyb hgl⟩ ⟨iB',hyb',hlst y' (mem_left.1 hy').1 hye' iB' hyb' hgl'⟩ _ h1 h1'
end
end Go.Ev


namespace Go.Ev
variable [CodeRel]
theorem INV.poke {bars : List Nat} {κ : Kn} {σ : Sto} {w : World} (h : INV bars κ σ w) {c c' : Array Value} {T : TypeId} {B : Nat} (hB : w.heap[B]? = some (.cells c T (0,0))) (hno : ∀ i,own κ σ i ≠ some B) (hM : ∀ o,κ.M B o = none) (hsz : c'.size = c.size) : INV bars κ σ (w.setRow B c') := by
 refine ⟨fun i ob hs => ?_,h.inj,fun b o v hm => ?_,fun b hb => ?_,h.wf,h.wfb⟩
 ·refine obRel.keep (Ext.refl σ.length κ) (List.getElem?_eq_some_iff.1 hs).1 rfl (h.wf i ob hs) (fun b hb => ⟨setRow_other _ _ _ _ fun e => ?_,fun _ => rfl⟩) (h.obs i ob hs)
  subst e
  exact hno i (by rw [own_eq hs]; exact hb)
 ·have hne : b ≠ B := by rintro rfl; rw [hM] at hm; cases hm
  rw [cell_setRow_other _ _ _ _ (by simpa using hne)]; exact h.mem _ _ _ hm
 ·obtain ⟨d,T',fr,hd,hsz'⟩ := h.cap b hb
  by_cases hbb : b = B
  ·subst hbb
   rw [hB] at hd; cases hd
   exact ⟨c',T,(0,0),setRow_heap _ _ _ _ _ _ hB,by omega⟩
  ·exact ⟨d,T',fr,by rw [setRow_other _ _ _ _ hbb]; exact hd,hsz'⟩
section
variable {P : Program} {nt : Nat} {ops : Array Oper} {L : List DEl} {anc : Nat → Nat → Bool} {calls : Sem'} {bars : List Nat} {κ0 : Kn} {σ0 : Sto} {w0 : World} {a0 : Act} {eF : Env} {σF : Sto} {listed : Array Bool} {a : Act} {w : World} {κ : Kn} {σ : Sto} {env : Env}
theorem draw_fused {ro : Option Nat} (st : ST P nt ops L anc) (d : DI nt ops L anc calls bars κ0 σ0 w0 a0 eF σF listed a w κ σ env) {e : DEl} (he : e ∈ L) {iA : Nat} (ha : e.a = some iA) (hj : e.i ∈ Region.ready .any ops listed) {Q : Exit → Act → World → Prop} {K : Act → World → Prop}
  (hK : ∀ a' w' κ' σ' env',DI nt ops L anc calls bars κ0 σ0 w0 a0 eF σF (listed.setIfInBounds e.i true) a' w' κ' σ' env' → K a' w') : wpOpIn (FW ro) 0 P ops Q e.i K a w := by
 have hanc := d.anc_done st hj
 obtain ⟨hlt,hg,-⟩ := mem_ready.1 hj
 have hls : e.i < listed.size := by rw [d.lsz]; exact hlt
 obtain ⟨oA,oS,dd,n,v,t,t',v',i,i',z,hA,hS,hx,hdA,hdn,hgA,hgS,hdS,hoA,hoS,hv,hti',hs',hti,hz,hzs⟩ := chkEl_fused (st.el e he) ha
 have hla : getL listed iA = true := hanc iA (st.alone e he iA ha).1
 obtain ⟨c1,c2,hs⟩ := left_split he hg
 have hel : e ∈ left L listed := mem_left.2 ⟨he,hg⟩
 obtain ⟨v1,σ1,envF',h1,h2,h3⟩ := d.pulled st he hs hanc
 obtain ⟨B,hPB⟩ := d.pend e hel iA ha hla
 obtain ⟨dd',n',v'',c,T,p1,p2,p3,p4,p5,p6,p7,p8⟩ := id hPB
 have hddn : e.x.dst = some dd := by rw [hx]
 rw [hddn] at p1 h2
 cases p1
 rw [hx] at p2
 cases p2
 obtain ⟨u,hu,hlen,hok,rfl,rfl⟩ : ∃ u,ev env v = some u ∧ (cells u).length = n ∧ okc u = true ∧ v1 = .ptr σ.length 0 ∧ σ1 = σ ++ [.var (cells u)] := by
  rw [hx] at h1
  simp only [act1,wantedE,opE] at h1
  cases hu : ev env v with
  | none => rw [hu] at h1; cases h1
  | some u =>
   rw [hu] at h1
   simp only [Option.bind_some] at h1
   by_cases hc : (cells u).length = n ∧ okc u = true
   ·rw [if_pos hc] at h1
    simp only [Option.some.injEq,Prod.mk.injEq] at h1
    exact ⟨u,rfl,hc.1,hc.2,h1.1.symm,h1.2.symm⟩
   ·rw [if_neg hc] at h1; cases h1
 obtain ⟨q1,q2⟩ := chkO_spec d.envR hv hu
 obtain ⟨q3,q4⟩ := q1.cells hok
 have hxs := cells_size q1 hok
 have hrun := run_storeVar (P := P) (x := a.eval v') (o := 0) hti' (by rw [← hxs,hlen,hs']) p4 (by omega) q4
 have hc' : (c.toList.take 0 ++ (a.eval v').cells.toList ++ c.toList.drop (0 + (a.eval v').cells.size)).toArray = (a.eval v').cells := by
  have : c.toList.drop (0 + (a.eval v').cells.size) = [] := List.drop_eq_nil_of_le (by simp; omega)
  rw [this]; simp
 rw [hc'] at hrun
 have hcs : (a.eval v').cells.size = c.size := by omega
 have hex : (execOp a.eval oS).run P w = .ok .skip (w.setRow B (a.eval v').cells) := by
  have hd' : a.eval (.tmp dd) = .pointer (some ⟨B,0,none⟩) := p3
  simp [execOp,hoS,Instr.storeAt,Instr.sureAddr,hd',hrun]
 unfold wpOpIn
 simp only [hS]
 rw [if_pos (by unfold Region.wanted; rw [hgS])]
 refine ⟨fun _ _ => trivial,?_⟩
 rw [Oper.semAt_eq _ _ _ (by rw [hoS]; simp)]
 rw [hex]
 show K (a.put oS.dst undef) _
 rw [hdS]
 show K a _
 have hrow := setRow_heap w B c (a.eval v').cells T (0,0) p4
 have hinv := INV.adopt (INV.poke d.inv p4 p6 p7 hcs) hrow p6 p7 q3 q4 (below_cells' q2)
 have hext := Ext.at κ σ.length B
 have hown : ∀ i b,own (κ.at σ.length B) (σ ++ [Ob.var (cells u)]) i = some b → own κ σ i = some b ∨ b = B := by
  intro i b hi
  cases hsi : (σ ++ [Ob.var (cells u)])[i]? with
  | none => unfold own at hi; rw [hsi] at hi; cases hi
  | some ob =>
   rw [own_eq hsi] at hi
   rcases Nat.lt_or_ge i σ.length with hil | hig
   ·rw [List.getElem?_append_left hil] at hsi
    refine .inl ?_
    rw [own_eq hsi]
    cases ob <;> first | (simpa [blkOf,Kn.at,Nat.ne_of_lt hil] using hi) | (simp [blkOf] at hi)
   ·rw [List.getElem?_append_right hig] at hsi
    obtain hz0 | hz0 : i - σ.length = 0 ∨ 0 < i - σ.length := by omega
    ·have : i = σ.length := by omega
     subst this
     simp at hsi; subst hsi
     simp [blkOf,Kn.at] at hi; exact .inr hi.symm
    ·rw [List.getElem?_eq_none (by simp; omega)] at hsi; cases hsi
 have hkept : Kept σ0.length κ0 σ0 w0 (κ.at σ.length B) (σ ++ [.var (cells u)]) (w.setRow B (a.eval v').cells) := by
  refine ⟨d.kept.ext.trans hext d.len,by rw [setRow_size]; exact d.kept.size,fun b hb hno => ?_,fun i b hi => ?_,d.kept.M,d.kept.os,d.kept.output,d.kept.tape⟩
  ·rw [setRow_other _ _ _ _ (by omega : b ≠ B)]; exact d.kept.keep b hb hno
  ·rcases hown i b hi with h | rfl
   ·exact d.kept.own i b h
   ·exact .inr p8
 have hleft : left L (listed.setIfInBounds e.i true) = c1 ++ c2 := left_set hls st.nd hs
 have hsub : ∀ y ∈ left L (listed.setIfInBounds e.i true),y ∈ left L listed ∧ y ≠ e := by
  intro y hy
  have hy' := mem_left.1 hy
  have hyl : y ∈ left L listed := by rw [hleft] at hy; rw [hs]; simp at hy ⊢; rcases hy with h | h <;> simp [h]
  refine ⟨hyl,fun hye => ?_⟩
  subst hye
  have := hy'.2
  rw [getL_set hls] at this
  simp at this
 have hlst : ∀ y ∈ L,∀ iB,y.a = some iB → getL (listed.setIfInBounds e.i true) iB = true → getL listed iB = true := by
  intro y hy iB hyb hgl
  rw [getL_set hls] at hgl
  simp only [Bool.or_eq_true,decide_eq_true_eq] at hgl
  rcases hgl with h | h
  ·exact h
  ·exact absurd h ((st.alone y hy iB hyb).2 e he).1
 refine hK a _ (κ.at σ.length B) _ (putE env (some dd) (.ptr σ.length 0)) ⟨hinv,hkept,Nat.le_trans d.len (by simp),d.size,d.defers,?_,⟨envF',by rw [hleft]; exact h2,h3⟩,?_,?_,by simpa using d.lsz,d.down_set hlt hanc⟩
 ·refine (d.envR.mono hext (m := (σ ++ [Ob.var (cells u)]).length) (by simp)).cons' (by rw [d.size]; exact hdn) ?_ (by simp [below])
  rw [p3]
  exact ⟨_,rfl,by simp [Kn.at],fun _ => by simp [Kn.at]⟩
 ·intro y hy iB hyb hgl
  obtain ⟨hyl,hne⟩ := hsub y hy
  have hyL := (mem_left.1 hyl).1
  obtain ⟨B1,hB1⟩ := d.pend y hyl iB hyb (hlst y hyL iB hyb hgl)
  have hBB : B1 ≠ B := by
   rintro rfl
   exact hne (d.dist y hyl e hel ⟨iB,hyb,hlst y hyL iB hyb hgl⟩ ⟨iA,ha,hla⟩ _ hB1 hPB)
  obtain ⟨d2,n2,v2,c2',T2,r1,r2,r3,r4,r5,r6,r7,r8⟩ := hB1
  refine ⟨B1,d2,n2,v2,c2',T2,r1,r2,r3,by rw [setRow_other _ _ _ _ hBB]; exact r4,r5,fun i hi => ?_,r7,r8⟩
  rcases hown i B1 hi with h | h
  ·exact r6 i h
  ·exact hBB h
 ·intro y hy y' hy' ⟨iB,hyb,hgl⟩ ⟨iB',hyb',hgl'⟩ B1 hB hB'
  obtain ⟨hyl,hne⟩ := hsub y hy
  obtain ⟨hyl',hne'⟩ := hsub y' hy'
  have g := hlst y (mem_left.1 hyl).1 iB hyb hgl
  have g' := hlst y' (mem_left.1 hyl').1 iB' hyb' hgl'
  obtain ⟨B2,hB2⟩ := d.pend y hyl iB hyb g
  obtain ⟨B3,hB3⟩ := d.pend y' hyl' iB' hyb' g'
  exact d.dist y hyl y' hyl' ⟨iB,hyb,g⟩ ⟨iB',hyb',g'⟩ B1 (hB2.back hB (fun _ _ => rfl)) (hB3.back hB' (fun _ _ => rfl))
theorem draw_all {ro : Option Nat} (hcalls : CallsOK P calls) (st : ST P nt ops L anc) {Q : Exit → Act → World → Prop} (hQ : ∀ listed a w κ σ env,DI nt ops L anc calls bars κ0 σ0 w0 a0 eF σF listed a w κ σ env → left L listed = [] → Q .normal a w) :
  ∀ (fuel : Nat) {listed : Array Bool} {a : Act} {w : World} {κ : Kn} {σ : Sto} {env : Env},DI nt ops L anc calls bars κ0 σ0 w0 a0 eF σF listed a w κ σ env → cnt ops.size listed ≤ fuel → wpAnyIn (FW ro) 0 P .any ops Q fuel listed a w := by
 intro fuel
 induction fuel with
 | zero =>
  intro listed a w κ σ env d hc
  have hr := ready_zero (ops := ops) (listed := listed) (by omega)
  exact ⟨hr,hQ listed a w κ σ env d (left_nil_of d.lsz st.lt st.back hr).1⟩
 | succ fuel ih =>
  intro listed a w κ σ env d hc
  refine ⟨fun hr => hQ listed a w κ σ env d (left_nil_of d.lsz st.lt st.back hr).1,fun j hj => ?_⟩
  obtain ⟨hlt,hg,-⟩ := mem_ready.1 hj
  have hcs := cnt_set (n := ops.size) (i := j) (listed := listed) (by rw [d.lsz]; exact hlt) hlt hg
  rcases st.cover j hlt with ⟨e,he,rfl⟩ | ⟨e,he,ha⟩
  ·cases ha : e.a with
   | none => exact draw_plain hcalls st d he ha hj fun a' w' κ' σ' env' d' => ih d' (by omega)
   | some iA => exact draw_fused st d he ha hj fun a' w' κ' σ' env' d' => ih d' (by omega)
  ·exact draw_alloc st d he ha hj fun a' w' κ' σ' env' d' => ih d' (by omega)
theorem draw_sound {ro : Option Nat} (hcalls : CallsOK P calls) (st : ST P nt ops L anc) (hm : P.follows .mixedOrders = true) {id : Nat} {Q : Exit → Act → World → Prop} {envF : Env} {keep : List Nat}
  (hi : INV bars κ σ w) (he : ENV κ σ.length env a.tmps) (hs : a.tmps.size = nt) (hr : evOps calls bars (L.map (·.x)) env σ = some (.norm,envF,σF)) (hQ : ∀ e a' w' κ',Post bars κ σ w a (.norm,restrict keep envF,σF) e a' w' κ' → a'.defers = a.defers → Q e a' w') : (Code.region id ops true).wpIn (FW ro) 0 P Q a w := by
 refine wpIn_region_any hm ?_
 have hget : ∀ i,i < ops.size → getL (Array.replicate ops.size false) i = false := by
  intro i hi
  unfold getL
  rw [Array.getD_eq_getD_getElem?,Array.getElem?_replicate,if_pos hi]; rfl
 have hl0 : left L (Array.replicate ops.size false) = L := by
  unfold left
  rw [List.filter_eq_self]
  intro e hel
  simp [hget e.i (st.lt e hel)]
 have hiA : ∀ e ∈ L,∀ iA,e.a = some iA → getL (Array.replicate ops.size false) iA = false := by
  intro e hel iA ha
  obtain ⟨oA,oS,dd,n,v,t,t',v',i,i',z,hA,-⟩ := chkEl_fused (st.el e hel) ha
  exact hget iA (Array.getElem?_eq_some_iff.1 hA).1
 refine draw_all (bars := bars) (κ0 := κ) (σ0 := σ) (w0 := w) (a0 := a) (eF := envF) (σF := σF) hcalls st (fun listed a' w' κ' σ' env' d hl => ?_) ops.size (κ := κ) (σ := σ) (env := env) ?_ ?_
 ·obtain ⟨eF',hrun,heq⟩ := d.run
  rw [hl] at hrun
  simp only [List.map_nil,evOps,Option.some.injEq,Prod.mk.injEq,true_and] at hrun
  obtain ⟨rfl,rfl⟩ := hrun
  refine hQ .normal a' w' κ' ⟨d.inv,d.kept,d.len,d.size.trans hs.symm,.of_eq d.defers,rfl,?_⟩ d.defers
  have g : ∀ s v,look (restrict keep envF) s = some v → look env' s = some v := fun s v h => by rw [← heq s]; exact look_restrict h
  exact ⟨fun s v h => d.envR.rel s v (g s v h),fun s v h => d.envR.wf s v (g s v h),fun s v h => d.envR.lt s v (g s v h)⟩
 ·refine ⟨hi.drew _,?_,Nat.le_refl _,hs,rfl,he,⟨envF,by rw [hl0]; exact hr,EqAll.refl _⟩,fun e hel iA ha hg => ?_,fun e hel e' hel' ⟨iA,ha,hg⟩ => ?_,by simp,fun k hk hg => ?_⟩
  ·exact ⟨Ext.refl _ _,Nat.le_refl _,fun _ _ _ => rfl,fun i b h => .inl ⟨i,h⟩,fun _ _ _ h => .inl h,rfl,rfl,rfl⟩
  ·rw [hiA e (by rw [hl0] at hel; exact hel) iA ha] at hg; cases hg
  ·rw [hiA e (by rw [hl0] at hel; exact hel) iA ha] at hg; cases hg
  ·rw [hget k hk] at hg; cases hg
 ·unfold cnt
  refine Nat.le_trans (List.countP_le_length) ?_
  simp
end
end Go.Ev


namespace Go.Ev
variable [CodeRel]
def mkL (ix : List (Nat × Option Nat)) (xs : List IOper) : List DEl := ix.zipWith (fun p x => ⟨p.1,p.2,x⟩) xs
theorem mkL_map : ∀ {ix : List (Nat × Option Nat)} {xs : List IOper},ix.length = xs.length → (mkL ix xs).map (·.x) = xs
 | [],[],_ => rfl
 | [],_ :: _,h => by simp at h
 | _ :: _,[],h => by simp at h
 | p :: ix,x :: xs,h => by
  have := mkL_map (ix := ix) (xs := xs) (by simpa using h)
  unfold mkL at this ⊢
  simp only [List.zipWith_cons_cons,List.map_cons,this]
def nodupN : List Nat → Bool
 | [] => true
 | x :: r => !r.contains x && nodupN r
theorem nodupN_spec : ∀ {l : List Nat},nodupN l = true → l.Nodup
 | [],_ => List.nodup_nil
 | x :: r,h => by
  simp only [nodupN,Bool.and_eq_true,Bool.not_eq_true'] at h
  rw [List.nodup_cons]
  exact ⟨by simpa using h.1,nodupN_spec h.2⟩
def pairB {α : Type} (f : α → α → Bool) : List α → Bool
 | [] => true
 | x :: r => r.all (f x) && pairB f r
theorem pairB_spec {α : Type} {f : α → α → Bool} : ∀ {l : List α},pairB f l = true → l.Pairwise fun a b => f a b = true
 | [],_ => .nil
 | x :: r,h => by
  simp only [pairB,Bool.and_eq_true,List.all_eq_true] at h
  exact .cons h.1 (pairB_spec h.2)
def ancM (ms : Array Nat) (j i : Nat) : Bool := decide (i < ms.size) && (ms.getD j 0).testBit i
def chkAnc (ops : Array Oper) (ms : Array Nat) : Bool := (List.range ops.size).all fun j => match ops[j]? with
 | some o => (List.range ms.size).all fun i => !ancM ms j i || o.after.toList.any fun e => Region.binds .any e && (e.on == i || ancM ms e.on i)
 | none => true
def notD (d : Option Nat) (f : Nat → Bool) : Bool := match d with
 | some d => f d
 | none => true
def chkST (P : Program) (nt : Nat) (ops : Array Oper) (L : List DEl) : Bool :=
 let ms := Region.before ops
 (L.all (chkEl P nt ops)) && nodupN (L.map (·.i)) && (L.all fun e => decide (e.i < ops.size)) &&
 ((List.range ops.size).all fun i => L.any fun e => e.i == i || e.a == some i) &&
 (L.all fun e => match e.a with | none => true | some iA => ancM ms e.i iA && L.all fun e' => e'.i != iA && (e'.a != some iA || e'.i == e.i)) &&
 (L.all fun e => !e.a.isSome || L.all fun e' => e'.i == e.i || notD e.x.dst fun d => e'.x.dst != some d) &&
 (pairB (fun e' e => ancM ms e.i e'.i || (compat e'.x.op.kind e.x.op.kind && apart e'.x e.x)) L) &&
 (pairB (fun e' e => !e.a.isSome || notD e.x.dst fun d => !e'.x.use.contains d) L) &&
 (L.all fun e => e.x.op.kind != 3 && (!e.a.isSome || notD e.x.dst fun d => !e.x.use.contains d) && (e.x.op.kind != 1 || e.a.isNone)) &&
 ((List.range ops.size).all fun i => match ops[i]? with | some o => o.after.toList.all fun e => !Region.binds .any e || decide (e.on < i) | none => true) &&
 chkAnc ops ms
theorem inj_of_nodup {L : List DEl} (h : (L.map (·.i)).Nodup) {e e' : DEl} (he : e ∈ L) (he' : e' ∈ L) (hi : e'.i = e.i) : e' = e := by
 induction L with
 | nil => cases he
 | cons x r ih =>
  simp only [List.map_cons,List.nodup_cons,List.mem_map] at h
  cases he with
  | head =>
   cases he' with
   | head => rfl
   | tail _ h2 => exact absurd ⟨e',h2,hi⟩ h.1
  | tail _ h1 =>
   cases he' with
   | head => exact absurd ⟨e,h1,hi.symm⟩ h.1
   | tail _ h2 => exact ih h.2 h1 h2
theorem chkST_spec {P : Program} {nt : Nat} {ops : Array Oper} {L : List DEl} (h : chkST P nt ops L = true) : ST P nt ops L (ancM (Region.before ops)) := by
 simp only [chkST,Bool.and_eq_true,List.all_eq_true,decide_eq_true_eq,Bool.or_eq_true,Bool.not_eq_true',bne_iff_ne,beq_iff_eq,List.any_eq_true,List.mem_range,Option.isNone_iff_eq_none] at h
 obtain ⟨⟨⟨⟨⟨⟨⟨⟨⟨⟨h1,h2⟩,h3⟩,h4⟩,h5⟩,h6⟩,h7⟩,h8⟩,h9⟩,h10⟩,h11⟩ := h
 have hnd := nodupN_spec h2
 refine ⟨h1,hnd,h3,fun i hi => ?_,fun e he iA ha => ?_,fun e he ha e' he' hne d hd => ?_,?_,?_,fun e he => (h9 e he).1.1,fun e he ha d hd => ?_,fun e he hk => ?_,fun i o ho e he hb => ?_,fun j o ho i hi => ?_⟩
 ·obtain ⟨e,he,hc⟩ := h4 i hi
  rcases hc with hc | hc
  ·exact .inl ⟨e,he,hc⟩
  ·exact .inr ⟨e,he,hc⟩
 ·have := h5 e he
  rw [ha] at this
  simp only [Bool.and_eq_true,List.all_eq_true,bne_iff_ne,Bool.or_eq_true,beq_iff_eq] at this
  refine ⟨this.1,fun e' he' => ⟨(this.2 e' he').1,fun hA => ?_⟩⟩
  rcases (this.2 e' he').2 with h | h
  ·exact absurd hA h
  ·exact inj_of_nodup hnd he he' h
 ·rcases h6 e he with h | h
  ·rw [ha] at h; cases h
  ·rcases h e' he' with h | h
   ·exact absurd (inj_of_nodup hnd he he' h) hne
   ·rw [hd] at h; simpa [notD] using h
 ·refine (pairB_spec h7).imp fun {a b} hab => ?_
  simp only [Bool.or_eq_true,Bool.and_eq_true] at hab
  exact hab
 ·refine (pairB_spec h8).imp fun {a b} hab ha d hd => ?_
  simp only [Bool.or_eq_true,Bool.not_eq_true'] at hab
  rcases hab with h | h
  ·rw [ha] at h; cases h
  ·rw [hd] at h; simpa [notD] using h
 ·rcases (h9 e he).1.2 with h | h
  ·rw [ha] at h; cases h
  ·rw [hd] at h; simpa [notD] using h
 ·rcases (h9 e he).2 with h | h
  ·exact absurd hk h
  ·exact h
 ·have := h10 i (Array.getElem?_eq_some_iff.1 ho).1
  rw [ho] at this
  simp only [List.all_eq_true,Bool.or_eq_true,Bool.not_eq_true',decide_eq_true_eq] at this
  rcases this e he with h | h
  ·rw [hb] at h; cases h
  ·exact h
 ·unfold chkAnc at h11
  rw [List.all_eq_true] at h11
  have := h11 j (List.mem_range.2 (Array.getElem?_eq_some_iff.1 ho).1)
  rw [ho] at this
  simp only [List.all_eq_true,List.mem_range,Bool.or_eq_true,Bool.not_eq_true',List.any_eq_true,Bool.and_eq_true,beq_iff_eq] at this
  have hlt : i < (Region.before ops).size := by
   unfold ancM at hi
   simp only [Bool.and_eq_true,decide_eq_true_eq] at hi
   exact hi.1
  rcases this i hlt with h | ⟨e,he,hb,hc⟩
  ·rw [hi] at h; cases h
  ·exact ⟨e,he,hb,hc⟩
end Go.Ev
