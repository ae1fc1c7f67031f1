/- A call whose arguments name no store object: known at the empty store, known at every store. -/
import Derived.Test.YtcjblapcdbjoiaaGreatDoorEvE
import GoSem.ClaimChange
import Derived.Carry
set_option linter.unnecessarySimpa false
set_option linter.unusedVariables false
set_option linter.unusedSimpArgs false
set_option linter.unusedSectionVars false
namespace Go.Ev
variable [CodeRel]
theorem INV.empty {bars : List Nat} {κ : Kn} {σ : Sto} {w : World} (h : INV bars κ σ w) : INV [] κ [] w :=
 ⟨fun i ob hs => by simp at hs,fun i j b hi => by simp [own] at hi,h.mem,h.cap,fun i ob hs => by simp at hs,fun n hn => by cases hn⟩
theorem closed_call {P : Program} {calls : Sem'} (hc : CallsOK P calls) {f : FuncId} {args : List PV} {r : Out} (hf : f < YB) (h : calls [] f args [] = some (r,[])) (hb : below.belowAll 0 args = true) :
  callable P f ∧ ∀ bars κ σ w (xs : Array Value),INV bars κ σ w → RelL κ args xs.toList → Calls P f xs w (CallPost bars κ σ w (r,σ)) := by
 obtain ⟨h1,h2⟩ := hc [] f args [] (r,[]) h
 refine ⟨h1 hf,fun bars κ σ w xs hi hr => ?_⟩
 refine ((h2 κ w xs hi.empty hr hb).1 hf).mono fun e w' hp => ?_
 obtain ⟨κ',g1,g2,-,g4⟩ := hp
 simp only at g1 g2 g4
 have hno : ∀ (b : Nat) (i : Nat),own κ [] i ≠ some b := fun b i hib => by simp [own] at hib
 let κ'' : Kn := { κ with M := κ'.M,cap := κ'.cap }
 have hext : Ext σ.length κ κ'' := ⟨fun _ _ _ => rfl,fun _ _ => rfl,fun _ _ => Nat.le_refl _,fun _ _ _ => rfl,g2.ext.M,g2.ext.cap⟩
 have hext0 : Ext 0 κ' κ'' := ⟨fun _ h => absurd h (Nat.not_lt_zero _),fun _ h => absurd h (Nat.not_lt_zero _),fun _ h => absurd h (Nat.not_lt_zero _),fun _ h => absurd h (Nat.not_lt_zero _),fun _ _ _ h => h,fun _ => Nat.le_refl _⟩
 have hM : ∀ b,b < w.heap.size → ∀ o,κ'.M b o = κ.M b o := by
  intro b hlt o
  cases hm : κ.M b o with
  | some v => exact g2.ext.M b o v hm
  | none =>
   cases hm' : κ'.M b o with
   | none => rfl
   | some v =>
    rcases g2.M b o v hm' with h | ⟨j,hj⟩ | h
    ·rw [hm] at h; cases h
    ·exact absurd hj (hno b j)
    ·omega
 obtain ⟨k1,k2⟩ := INV.more (w' := w') (κ' := κ'') hi hext (fun _ _ => rfl) g2.size (fun b hlt => g2.keep b hlt (hno b)) hM g1.mem g1.cap g2.os g2.output g2.tape
 refine ⟨κ'',k1,k2,Nat.le_refl _,?_⟩
 cases r with
 | ret v =>
  obtain ⟨x,e1,e2,e3⟩ := g4
  simp only [List.length_nil] at e3
  exact ⟨x,e1,RelV.mono hext0 v x e3 e2,below_mono (Nat.zero_le _) v e3⟩
 | pan v =>
  obtain ⟨x,e1,e2,e3⟩ := g4
  simp only [List.length_nil] at e3
  exact ⟨x,e1,RelV.mono hext0 v x e3 e2,below_mono (Nat.zero_le _) v e3⟩
end Go.Ev


namespace Go.Ev
def xcallF (calls : Sem') (bars : List Nat) (f : FuncId) (args : List PV) (σ : Sto) : Option (Bool × Out × Sto) :=
 if below.belowAll 0 args && decide (f < YB) then
  match calls [] f args [] with
  | some (r,[]) => some (true,r,σ)
  | some _ => (calls bars f args σ).map fun p => (false,p)
  | none => none
 else if below.belowAll 0 (norm.normAll args) && decide (f < YB) then
  match calls [] f (norm.normAll args) [] with
  | some (r,[]) => some (true,r,σ)
  | some _ => (calls bars f args σ).map fun p => (false,p)
  | none => none
 else (calls bars f args σ).map fun p => (false,p)
def xcall (calls : Sem') : Sem' := fun bars f args σ => (xcallF calls bars f args σ).map (·.2)
theorem map_snd {o : Option (Out × Sto)} : (o.map fun p => (false,p)).map (·.2) = o := by cases o <;> rfl
theorem xcallF_true {calls : Sem'} {bars : List Nat} {f : FuncId} {args : List PV} {σ σ' : Sto} {r : Out} (h : xcallF calls bars f args σ = some (true,r,σ')) : σ' = σ := by
 unfold xcallF at h
 repeat' split at h
 all_goals first | (cases h; rfl) | (cases h; done) | (cases hc : calls bars f args σ <;> rw [hc] at h <;> cases h)
def vEq : Value → Value → Bool
 | .int k a,.int l b => decide (k = l) && decide (a = b)
 | .bool a,.bool b => a == b
 | .string a,.string b => decide (a = b)
 | .pointer none,.pointer none => true
 | .slice a b c,.slice d e f => decide (a = d) && decide (b = e) && decide (c = f)
 | .map none,.map none => true
 | .nilFunc,.nilFunc => true
 | .nilIface,.nilIface => true
 | _,_ => false
theorem vEq_eq : ∀ {a b : Value},vEq a b = true → a = b := by
 intro a b h
 unfold vEq at h
 split at h <;> simp_all
mutual
def PV.eqb : PV → PV → Bool
 | .k a,.k b => vEq a b
 | .ptr a b,.ptr c d => a == c && b == d
 | .pa a b c d,.pa e f g h => a == e && b == f && c == g && d == h
 | .pe a b,.pe c d => eqbL a c && b == d
 | .sl a b,.sl c d => a == c && eqbE b d
 | .ow a b c,.ow d e f => a == d && b == e && eqbE c f
 | .rs a b c d,.rs e f g h => a == e && b == f && c == g && d == h
 | .agg a,.agg b => eqbL a b
 | .tup a,.tup b => eqbL a b
 | .fn f a,.fn g b => decide (f = g) && eqbL a b
 | .yld a,.yld b => a == b
 | .bm f a,.bm g b => f == g && eqbL a b
 | .map a,.map b => a == b
 | .iface t a,.iface u b => t == u && PV.eqb a b
 | _,_ => false
def eqbL : List PV → List PV → Bool
 | [],[] => true
 | a :: r,b :: s => PV.eqb a b && eqbL r s
 | _,_ => false
def eqbE : List (List PV) → List (List PV) → Bool
 | [],[] => true
 | a :: r,b :: s => eqbL a b && eqbE r s
 | _,_ => false
end
mutual
theorem eqb_eq : ∀ (a b : PV),PV.eqb a b = true → a = b
 | .k a,b,h => by cases b <;> simp [PV.eqb] at h; rw [vEq_eq h]
 | .ptr _ _,b,h => by cases b <;> simp [PV.eqb] at h; simp [h]
 | .pa _ _ _ _,b,h => by cases b <;> simp [PV.eqb] at h; simp [h]
 | .pe a _,b,h => by cases b <;> simp [PV.eqb] at h; rw [eqbL_eq a _ h.1,h.2]
 | .sl _ a,b,h => by cases b <;> simp [PV.eqb] at h; rw [eqbE_eq a _ h.2,h.1]
 | .ow _ _ a,b,h => by cases b <;> simp [PV.eqb] at h; rw [eqbE_eq a _ h.2,h.1.1,h.1.2]
 | .rs _ _ _ _,b,h => by cases b <;> simp [PV.eqb] at h; simp [h]
 | .agg a,b,h => by cases b <;> simp [PV.eqb] at h; rw [eqbL_eq a _ h]
 | .tup a,b,h => by cases b <;> simp [PV.eqb] at h; rw [eqbL_eq a _ h]
 | .fn _ a,b,h => by cases b <;> simp [PV.eqb] at h; rw [eqbL_eq a _ h.2,h.1]
 | .yld _,b,h => by cases b <;> simp [PV.eqb] at h; simp [h]
 | .bm _ a,b,h => by cases b <;> simp [PV.eqb] at h; rw [eqbL_eq a _ h.2,h.1]
 | .map _,b,h => by cases b <;> simp [PV.eqb] at h; simp [h]
 | .iface _ a,b,h => by cases b <;> simp [PV.eqb] at h; rw [eqb_eq a _ h.2,h.1]
theorem eqbL_eq : ∀ (a b : List PV),eqbL a b = true → a = b
 | [],b,h => by cases b <;> simp [eqbL] at h; rfl
 | a :: r,b,h => by
  cases b with
  | nil => simp [eqbL] at h
  | cons c s => simp [eqbL] at h; rw [eqb_eq a c h.1,eqbL_eq r s h.2]
theorem eqbE_eq : ∀ (a b : List (List PV)),eqbE a b = true → a = b
 | [],b,h => by cases b <;> simp [eqbE] at h; rfl
 | a :: r,b,h => by
  cases b with
  | nil => simp [eqbE] at h
  | cons c s => simp [eqbE] at h; rw [eqbL_eq a c h.1,eqbE_eq r s h.2]
end
def eqbM : List (Value × PV) → List (Value × PV) → Bool
 | [],[] => true
 | a :: r,b :: s => vEq a.1 b.1 && PV.eqb a.2 b.2 && eqbM r s
 | _,_ => false
theorem eqbM_eq : ∀ (a b : List (Value × PV)),eqbM a b = true → a = b
 | [],b,h => by cases b <;> simp [eqbM] at h; rfl
 | (a1,a2) :: r,b,h => by
  cases b with
  | nil => simp [eqbM] at h
  | cons c s => obtain ⟨c1,c2⟩ := c; simp [eqbM] at h; rw [vEq_eq h.1.1,eqb_eq a2 c2 h.1.2,eqbM_eq r s h.2]
def obEq : Ob → Ob → Bool
 | .var a,.var b => eqbL a b
 | .tok a b,.tok c d => a == c && b == d
 | .arr a b c,.arr d e f => a == d && b == e && eqbE c f
 | .mp a,.mp b => eqbM a b
 | .dead,.dead => true
 | _,_ => false
theorem obEq_eq {a b : Ob} (h : obEq a b = true) : a = b := by
 unfold obEq at h
 split at h
 ·rw [eqbL_eq _ _ h]
 ·simp at h; simp [h]
 ·simp at h; rw [eqbE_eq _ _ h.2,h.1.1,h.1.2]
 ·rw [eqbM_eq _ _ h]
 ·rfl
 ·cases h
def stoEq : Sto → Sto → Bool
 | [],[] => true
 | a :: r,b :: s => obEq a b && stoEq r s
 | _,_ => false
theorem stoEq_eq : ∀ {a b : Sto},stoEq a b = true → a = b
 | [],[],_ => rfl
 | [],_ :: _,h => by simp [stoEq] at h
 | _ :: _,[],h => by simp [stoEq] at h
 | a :: r,b :: s,h => by simp [stoEq] at h; rw [obEq_eq h.1,stoEq_eq h.2]
def obEqO : Option Ob → Option Ob → Bool
 | some a,some b => obEq a b
 | none,none => true
 | _,_ => false
theorem obEqO_eq {a b : Option Ob} (h : obEqO a b = true) : a = b := by
 unfold obEqO at h
 split at h
 ·rw [obEq_eq h]
 ·rfl
 ·cases h
def avOK (env : Env) (σ σ' : Sto) : List Nat → Bool
 | [] => true
 | n :: r => (match look env n with
  | some v => (match top v with
   | some id => obEqO σ'[id]? σ[id]?
   | none => true)
  | none => true) && avOK env σ σ' r
theorem avOK_spec {env : Env} {σ σ' : Sto} : ∀ {l : List Nat},avOK env σ σ' l = true → ∀ n ∈ l,∀ v id,look env n = some v → top v = some id → σ'[id]? = σ[id]?
 | [],_,n,hn,_,_,_,_ => by cases hn
 | m :: r,h,n,hn,v,id,h1,h2 => by
  simp only [avOK,Bool.and_eq_true] at h
  rcases List.mem_cons.1 hn with rfl | hn
  ·rw [h1] at h
   simp only [h2] at h
   exact obEqO_eq h.1
  ·exact avOK_spec h.2 n hn v id h1 h2
def xOp1 (calls : Sem') (bars : List Nat) (o : IOper) (env : Env) (σ : Sto) : Option (Ex × Env × Sto) :=
 match wantedE env o.guard with
 | some true =>
  match opE bars env σ o.op with
  | some (.val v σ') => some (.norm,putE env o.dst v,σ')
  | some (.call f args σ') =>
   match xcallF calls bars f args σ' with
   | some (fl,.ret v,σ'') => if !fl && ((o.op.quiet && !(stoEq σ'' σ')) || (o.op.growq && !(stoEq (σ''.take σ'.length) σ')) || !avOK env σ' σ'' o.op.avs) then none else some (.norm,putE env o.dst v,σ'')
   | some (_,.pan v,σ'') => some (.pan v,env,σ'')
   | none => none
  | some (.pan v σ') => some (.pan v,env,σ')
  | _ => none
 | some false => some (.norm,putE env o.dst (.tup []),σ)
 | none => none
def xOps (calls : Sem') (bars : List Nat) : List IOper → Env → Sto → Option (Ex × Env × Sto)
 | [],env,σ => some (.norm,env,σ)
 | o :: r,env,σ => match xOp1 calls bars o env σ with
  | some (.norm,env',σ') => xOps calls bars r env' σ'
  | r => r
def xC (calls : Sem') (it : It) : List Nat → IC → Env → Sto → Option (Ex × Env × Sto)
 | _,.skip,env,σ => some (.norm,env,σ)
 | _,.stuck,_,_ => none
 | bars,.seq a b,env,σ => match xC calls it bars a env σ with
  | some (.norm,env',σ') => xC calls it bars b env' σ'
  | r => r
 | bars,.reg d ops keep,env,σ => match xOps calls bars ops env σ with
  | some (.norm,env',σ') => some (.norm,restrict keep env',σ')
  | r => if d.isSome then none else r
 | bars,.ps l c,env,σ => match psE bars env σ l with
  | some (env',σ') => xC calls it bars c env' σ'
  | none => none
 | bars,.psa c l,env,σ => match xC calls it bars c env σ with
  | some (.norm,env',σ') => (match psE bars env' σ' l with
   | some (env'',σ'') => some (.norm,env'',σ'')
   | none => none)
  | r => r
 | bars,.cond c a b,env,σ => match ev env c with
  | some (.k (.bool true)) => xC calls it bars a env σ
  | some (.k (.bool false)) => xC calls it bars b env σ
  | _ => none
 | bars,.block id a,env,σ => match xC calls it bars a env σ with
  | some (.exit j,env',σ') => if j = id then some (.norm,env',σ') else some (.exit j,env',σ')
  | r => r
 | bars,.loop a,env,σ => it (fun x => xC calls it bars a x.1 x.2) (env,σ)
 | bars,.cut a keep,env,σ => match xC calls it (σ.length :: bars) a env σ with
  | some (.norm,env',σ') => if envBelow σ.length (restrict keep env') then some (.norm,restrict keep env',σ'.take σ.length) else none
  | some (.exit id,env',σ') => if envBelow σ.length env' then some (.exit id,env',σ'.take σ.length) else some (.exit id,env',σ')
  | some (.ret,env',σ') => if envBelow σ.length env' then some (.ret,env',σ'.take σ.length) else some (.ret,env',σ')
  | r => r
 | bars,.rfunc f ps keep asg bd,env,σ => match ev env f with
  | some (.fn (.func g) cap) => if g < YB then
    match calls bars g (.yld σ.length :: cap) (σ ++ [.loop (restrict keep env) ps asg bd 0 none]) with
    | some (.ret _,σ') => match σ'[σ.length]? with
     | some (.loop env' ps' a' b' st pend) => (endLoopE st pend).bind fun e => some (e,env,σ'.set σ.length (.loop env' ps' a' b' 3 pend))
     | _ => none
    | some (.pan v,σ') => some (.pan v,env,σ')
    | none => none
   else none
  | _ => none
 | _,.dfr ..,_,_ => none
 | _,.exit id keep,env,σ => some (.exit id,restrict keep env,σ)
 | _,.ret keep,env,σ => some (.ret,restrict keep env,σ)
def xRound (calls : Sem') (it : It) : Sem' := fun bars l args σ =>
 match σ[l]? with
 | some (.loop env ps asg bd 0 none) => if args.length = ps.length then
   match xC calls it (σ.length :: bars) asg (putArgs ps args env) σ with
   | some (.norm,env1,σ1) => match σ1[l]? with
    | some (.loop env' ps' a' b' 0 none) =>
     match xC calls it (σ.length :: bars) bd env1 (σ1.set l (.loop env' ps' a' b' 1 none)) with
     | some (e,_,σ2) => match σ2[l]? with
      | some (.loop env' ps' a' b' 1 none) => (pendE e).bind fun p => some (.ret (.b p.isNone),(σ2.set l (.loop env' ps' a' b' (if p.isNone then 0 else 2) p)).take σ.length)
      | _ => none
     | none => none
    | _ => none
   | _ => none
  else none
 | _ => none
def xBody (T : FuncId → Option IF) (H : Hook) (calls : Sem') (it : It) : Sem' := fun bars f args σ =>
 if YB ≤ f then xRound calls it bars (f - YB) args σ else
 match H f with
 | some h => h args σ
 | none => match T f with
  | none => none
  | some fn => if args.length = fn.np then
    if fn.mode = 2 then finish fn σ.length (evD T (xC calls it) (σ.length :: bars) fn.body (argEnv 0 args) σ) else if fn.mode = 3 then none else
    match xC calls it (σ.length :: bars) fn.body (argEnvM fn.mode args) σ with
    | some (.norm,env,σ') | some (.ret,env,σ') => (ressE env σ' fn.res).bind fun vs => (leave fn.mode σ.length (pack vs) σ').bind fun p => some (.ret p.1,p.2)
    | some (.pan v,_,σ') => if below σ.length v then some (.pan v,σ'.take σ.length) else none
    | _ => none
   else none
theorem xOp1_ev {calls : Sem'} {bars : List Nat} {o : IOper} {env : Env} {σ : Sto} {r : Ex × Env × Sto} (h : xOp1 calls bars o env σ = some r) : evOp1 (xcall calls) bars o env σ = some r := by
 unfold xOp1 at h
 unfold evOp1
 split at h
 ·rename_i hw
  rw [hw]
  simp only
  split at h
  ·rename_i hv; rw [hv]; exact h
  ·rename_i f args σ' hv
   rw [hv]
   simp only
   unfold xcall
   cases hc : xcallF calls bars f args σ' with
   | none => rw [hc] at h; cases h
   | some y =>
    rw [hc] at h
    obtain ⟨fl,y1,y2⟩ := y
    simp only [Option.map_some]
    cases y1 with
    | ret v =>
     simp only at h ⊢
     split at h
     ·cases h
     ·rename_i hq
      rw [if_neg]
      ·exact h
      ·cases fl with
       | true =>
        have := xcallF_true hc
        subst this
        rintro (⟨h1,h2⟩ | ⟨h1,h2⟩ | ⟨n,hn,v',id,h1,h2,h3⟩)
        ·exact h2 rfl
        ·exact h2 ⟨[],by simp⟩
        ·exact h3 rfl
       | false =>
        simp only [Bool.not_false,Bool.true_and,Bool.or_eq_true,not_or,Bool.and_eq_true,not_and,Bool.not_eq_true',Bool.not_eq_false] at hq
        rintro (⟨h1,h2⟩ | ⟨h1,h2⟩ | ⟨n,hn,v',id,h1,h2,h3⟩)
        ·exact h2 (stoEq_eq (hq.1.1 h1))
        ·refine h2 ⟨y2.drop σ'.length,?_⟩
         have h3 := stoEq_eq (hq.1.2 h1)
         calc y2 = y2.take σ'.length ++ y2.drop σ'.length := (List.take_append_drop _ _).symm
          _ = σ' ++ y2.drop σ'.length := by rw [h3]
        ·exact h3 (avOK_spec hq.2 n hn v' id h1 h2)
    | pan v => exact h
  ·rename_i hv; rw [hv]; exact h
  ·cases h
 ·rename_i hw; rw [hw]; exact h
 ·cases h
theorem xOps_ev {calls : Sem'} {bars : List Nat} : ∀ {l : List IOper} {env : Env} {σ : Sto} {r : Ex × Env × Sto},xOps calls bars l env σ = some r → evOps (xcall calls) bars l env σ = some r
 | [],env,σ,r,h => h
 | o :: l,env,σ,r,h => by
  simp only [xOps] at h
  simp only [evOps]
  cases ha : xOp1 calls bars o env σ with
  | none => rw [ha] at h; cases h
  | some y =>
   rw [ha] at h
   rw [xOp1_ev ha]
   obtain ⟨e,y1,y2⟩ := y
   cases e with
   | norm => exact xOps_ev h
   | exit id => exact h
   | ret => exact h
   | pan v => exact h
theorem xcall_yld {calls : Sem'} {bars : List Nat} {f : FuncId} {l : Nat} {args : List PV} {σ : Sto} : xcall calls bars f (.yld l :: args) σ = calls bars f (.yld l :: args) σ := by
 unfold xcall xcallF
 simp [below.belowAll,below,norm.normAll,norm,Function.comp_def]
theorem xC_ev {calls : Sem'} {i : It} (hi : LeI i i) : ∀ (c : IC) {bar : List Nat} {env : Env} {σ : Sto} {r : Ex × Env × Sto},xC calls i bar c env σ = some r → evC (xcall calls) i bar c env σ = some r := by
 intro c
 induction c with
 | skip => intro bar env σ r hr; exact hr
 | stuck => intro bar env σ r hr; cases hr
 | seq a b iha ihb =>
  intro bar env σ r hr
  simp only [evC,xC] at hr ⊢
  cases ha : xC calls i bar a env σ with
  | none => rw [ha] at hr; cases hr
  | some y =>
   rw [ha] at hr
   rw [iha ha]
   obtain ⟨e,y1,y2⟩ := y
   cases e with
   | norm => exact ihb hr
   | exit id => exact hr
   | ret => exact hr
   | pan v => exact hr
 | reg d ops keep =>
  intro bar env σ r hr
  simp only [evC,xC] at hr ⊢
  cases ha : xOps calls bar ops env σ with
  | none => rw [ha] at hr; simp at hr
  | some y => rw [ha] at hr; rw [xOps_ev ha]; exact hr
 | psa c l ih =>
  intro bar env σ r hr
  simp only [evC,xC] at hr ⊢
  cases hc : xC calls i bar c env σ with
  | none => rw [hc] at hr; cases hr
  | some y => rw [hc] at hr; rw [ih hc]; exact hr
 | ps l c ih =>
  intro bar env σ r hr
  simp only [evC,xC] at hr ⊢
  cases hp : psE bar env σ l with
  | none => rw [hp] at hr; cases hr
  | some y => rw [hp] at hr; exact ih hr
 | cond c a b iha ihb =>
  intro bar env σ r hr
  simp only [evC,xC] at hr ⊢
  split at hr
  ·rename_i hx; simp only [hx]; exact iha hr
  ·rename_i hx; simp only [hx]; exact ihb hr
  ·cases hr
 | block id a ih =>
  intro bar env σ r hr
  simp only [evC,xC] at hr ⊢
  cases ha : xC calls i bar a env σ with
  | none => rw [ha] at hr; cases hr
  | some y => rw [ha] at hr; rw [ih ha]; exact hr
 | loop a ih =>
  intro bar env σ r hr
  simp only [evC,xC] at hr ⊢
  exact hi _ _ (fun x r hx => ih hx) _ _ hr
 | cut a keep ih =>
  intro bar env σ r hr
  simp only [evC,xC] at hr ⊢
  cases ha : xC calls i (σ.length :: bar) a env σ with
  | none => rw [ha] at hr; cases hr
  | some y => rw [ha] at hr; rw [ih ha]; exact hr
 | rfunc x ps keep asg bd _ _ =>
  intro bar env σ r hr
  simp only [evC,xC,xcall_yld] at hr ⊢
  exact hr
 | dfr => intro bar env σ r hr; cases hr
 | exit id _ => intro bar env σ r hr; exact hr
 | ret _ => intro bar env σ r hr; exact hr
theorem xRound_ev {calls : Sem'} {i : It} (hi : LeI i i) {bars : List Nat} {l : FuncId} {args : List PV} {σ : Sto} {r : Out × Sto} (hr : xRound calls i bars l args σ = some r) : roundE (xcall calls) i bars l args σ = some r := by
 unfold xRound at hr
 unfold roundE
 split at hr
 ·rename_i hs
  simp only [hs]
  split at hr
  ·rename_i hl
   rw [if_pos hl]
   split at hr
   ·rename_i h1
    rw [xC_ev hi _ h1]
    simp only
    split at hr
    ·rename_i hs1
     simp only [hs1]
     split at hr
     ·rename_i h2
      rw [xC_ev hi _ h2]
      exact hr
     ·cases hr
    ·cases hr
   ·cases hr
  ·cases hr
 ·cases hr
theorem xBody_ev {T : FuncId → Option IF} {H : Hook} {calls : Sem'} {i : It} (hi : LeI i i) {bars : List Nat} {f : FuncId} {args : List PV} {σ : Sto} {r : Out × Sto} (hr : xBody T H calls i bars f args σ = some r) : body T H (xcall calls) i bars f args σ = some r := by
 unfold xBody at hr
 unfold body
 by_cases hy : YB ≤ f
 ·rw [if_pos hy] at hr ⊢
  exact xRound_ev hi hr
 rw [if_neg hy] at hr ⊢
 cases hH : H f with
 | some hk => rw [hH] at hr; exact hr
 | none =>
  rw [hH] at hr
  simp only at hr ⊢
  cases hT : T f with
  | none => rw [hT] at hr; cases hr
  | some fn =>
   rw [hT] at hr
   simp only at hr ⊢
   by_cases hl : args.length = fn.np
   ·rw [if_pos hl] at hr ⊢
    by_cases hm : fn.mode = 2
    ·rw [if_pos hm] at hr ⊢
     cases ha : evD T (xC calls i) (σ.length :: bars) fn.body (argEnv 0 args) σ with
     | none => rw [ha] at hr; cases hr
     | some y => rw [ha] at hr; rw [evD_mono (fun l c e s r hr => xC_ev hi c hr) _ _ _ _ _ ha]; exact hr
    rw [if_neg hm] at hr ⊢
    by_cases hm3 : fn.mode = 3
    ·rw [if_pos hm3] at hr; cases hr
    rw [if_neg hm3] at hr ⊢
    cases ha : xC calls i (σ.length :: bars) fn.body (argEnvM fn.mode args) σ with
    | none => rw [ha] at hr; cases hr
    | some y => rw [ha] at hr; rw [xC_ev hi _ ha]; exact hr
   ·rw [if_neg hl] at hr; cases hr
section
variable [CodeRel] {P : Program}
theorem xcall_sound {calls : Sem'} (hc : CallsOK P calls) : CallsOK P (xcall calls) := by
 intro bars f args σ r hr
 unfold xcall xcallF at hr
 split at hr
 ·rename_i hb
  simp only [Bool.and_eq_true,decide_eq_true_eq] at hb
  split at hr
  ·rename_i o ho
   cases hr
   obtain ⟨h1,h2⟩ := closed_call hc hb.2 ho hb.1
   exact ⟨fun _ => h1,fun κ w xs hi hrel _ => ⟨fun _ => h2 bars κ σ w xs hi hrel,fun l hl => absurd hb.2 (by rw [hl]; exact Nat.not_lt.2 (Nat.le_add_right _ _))⟩⟩
  ·rw [map_snd] at hr; exact hc bars f args σ r hr
  ·cases hr
 ·split at hr
  ·rename_i hb
   simp only [Bool.and_eq_true,decide_eq_true_eq] at hb
   split at hr
   ·rename_i o ho
    cases hr
    obtain ⟨h1,h2⟩ := closed_call hc hb.2 ho hb.1
    exact ⟨fun _ => h1,fun κ w xs hi hrel _ => ⟨fun _ => h2 bars κ σ w xs hi (RelL.norm _ _ hrel),fun l hl => absurd hb.2 (by rw [hl]; exact Nat.not_lt.2 (Nat.le_add_right _ _))⟩⟩
   ·rw [map_snd] at hr; exact hc bars f args σ r hr
   ·cases hr
  ·rw [map_snd] at hr; exact hc bars f args σ r hr
end
end Go.Ev


namespace Go.Ev
variable [CodeRel]
def Tys (R : TypeId → List PV → Prop) : List TypeId → List PV → Prop
 | [],cs => cs = []
 | t :: ts,cs => ∃ a b,cs = a ++ b ∧ R t a ∧ Tys R ts b
def HasTy (P : Program) : Nat → TypeId → List PV → Prop
 | 0,_,_ => False
 | n + 1,t,cs => match P.underlying t with
  | some .bool => ∃ b,cs = [.b b]
  | some (.int k) => ∃ m,cs = [.k (.int k m)] ∧ (Lit.int k m).wf = true
  | some .string => ∃ s : ByteArray,cs = [.s s] ∧ s.size ≤ maxLen
  | some (.slice e) => ∃ es,cs = [.sl false es] ∧ es.length ≤ maxLen ∧ ∀ x ∈ es,HasTy P n e x
  | some (.struct fs) => Tys (HasTy P n) (fs.toList.map (·.type)) cs
  | _ => False
def contig (P : Program) (total : Nat) : Nat → List Field → Bool
 | off,[] => off == total
 | off,f :: r => f.offset == off && contig P total (off + P.cellsOf f.type) r
def tysOK (P : Program) (S : List TypeId) : Bool := S.all fun t => match P.underlying t with
 | some .bool | some (.int _) | some .string => P.cellsOf t == 1
 | some (.slice e) => S.contains e && decide (0 < P.cellsOf e) && P.cellsOf t == 1
 | some (.struct fs) => fs.toList.all (fun f => S.contains f.type) && contig P (P.cellsOf t) 0 fs.toList
 | _ => false
def Kn.start (w : World) : Kn := { ρ := fun _ => (0,0),esz := fun _ => 0,gen := fun _ => 0,tok := fun _ => none,M := fun b o => w.cell? ⟨b,o,none⟩,cap := fun _ => 0 }
theorem mapM_mem {α β : Type} {f : α → Option β} : ∀ {l : List α} {r : List β},l.mapM f = some r → ∀ x ∈ l,∃ y,f x = some y
 | [],_,_,x,hx => by cases hx
 | a :: l,r,h,x,hx => by
  simp only [List.mapM_cons,Option.pure_def,Option.bind_eq_bind,Option.bind_eq_some_iff,Option.some.injEq] at h
  obtain ⟨y,hy,r',hr,-⟩ := h
  rcases List.mem_cons.1 hx with rfl | hx
  ·exact ⟨y,hy⟩
  ·exact mapM_mem hr x hx
theorem mapM_get {β : Type} {f : Nat → Option β} : ∀ {n : Nat} {r : List β} {k : Nat},((List.range n).map (· + k)).mapM f = some r → r.length = n ∧ ∀ i,i < n → f (i + k) = r[i]?
 | 0,r,k,h => by simp at h; subst h; simp
 | n + 1,r,k,h => by
  rw [List.range_succ_eq_map] at h
  simp only [List.map_cons,List.map_map,List.mapM_cons,Option.pure_def,Option.bind_eq_bind,Option.bind_eq_some_iff,Option.some.injEq] at h
  obtain ⟨y,hy,r',hr,rfl⟩ := h
  have he : List.map ((fun x => x + k) ∘ Nat.succ) (List.range n) = (List.range n).map (· + (k + 1)) := by
   apply List.map_congr_left
   intro a _
   simp only [Function.comp]; omega
  rw [he] at hr
  obtain ⟨h1,h2⟩ := mapM_get hr
  refine ⟨by simp [h1],fun i hi => ?_⟩
  cases i with
  | zero => simpa using hy
  | succ i => have := h2 i (by omega); rw [show i + 1 + k = i + (k + 1) by omega,this]; simp
theorem relM_of {w : World} {b : Nat} : ∀ {pvs : List PV} {cs : List Value} {o : Nat},RelL (Kn.start w) pvs cs → (∀ v ∈ cs,v.oneCell' = true) → (∀ i v,cs[i]? = some v → w.cell? ⟨b,o + i,none⟩ = some v) → RelM (Kn.start w) b o pvs
 | [],cs,o,h,_,_ => trivial
 | p :: r,cs,o,h,h1,h2 => by
  simp only [RelL] at h
  obtain ⟨v,l,rfl,hv,hl⟩ := h
  refine ⟨⟨v,(by have := h2 0 v (by simp); simpa using this : w.cell? ⟨b,o,none⟩ = some v),h1 v (by simp),hv⟩,relM_of hl (fun u hu => h1 u (by simp [hu])) fun i u hi => ?_⟩
  have := h2 (i + 1) u (by simpa using hi)
  rwa [show o + (i + 1) = o + 1 + i by omega] at this
section
variable {H : Type} {enc : TypeId × Value → H} {P : Program} {w : World} {spare : Nat → Bool} {S : List TypeId}
theorem tys_trod {n : Nat} (ih : ∀ t ∈ S,∀ cs x,DataW.trod enc P w 0 spare true n t cs = some x → cs.length = P.cellsOf t → ∃ pvs,HasTy P n t pvs ∧ RelL (Kn.start w) pvs cs ∧ ∀ v ∈ cs,v.oneCell' = true) (total : Nat) :
  ∀ (fs : List Field) (off : Nat) (cs : List Value),cs.length = total → (∀ f ∈ fs,f.type ∈ S) → contig P total off fs = true → (∀ f ∈ fs,∃ x,DataW.trod enc P w 0 spare true n f.type ((cs.drop f.offset).take (P.cellsOf f.type)) = some x) →
   ∃ pvs,Tys (HasTy P n) (fs.map (·.type)) pvs ∧ RelL (Kn.start w) pvs (cs.drop off) ∧ ∀ v ∈ cs.drop off,v.oneCell' = true
 | [],off,cs,hl,_,hc,_ => by
  simp only [contig,beq_iff_eq] at hc
  have : cs.drop off = [] := List.drop_eq_nil_of_le (by omega)
  exact ⟨[],rfl,by rw [this]; rfl,by simp [this]⟩
 | f :: r,off,cs,hl,hS,hc,hx => by
  simp only [contig,Bool.and_eq_true,beq_iff_eq] at hc
  obtain ⟨hoff,hc⟩ := hc
  have hle : off + P.cellsOf f.type ≤ total := by
   clear hx
   have : ∀ (r : List Field) (o : Nat),contig P total o r = true → o ≤ total := by
    intro r
    induction r with
    | nil => intro o h; simp [contig] at h; omega
    | cons g r ih => intro o h; simp only [contig,Bool.and_eq_true,beq_iff_eq] at h; have := ih _ h.2; omega
   exact this r _ hc
  obtain ⟨x,hx0⟩ := hx f (by simp)
  rw [hoff] at hx0
  obtain ⟨p,h1,h2,h3⟩ := ih f.type (hS f (by simp)) _ _ hx0 (by simp; omega)
  obtain ⟨q,h4,h5,h6⟩ := tys_trod ih total r (off + P.cellsOf f.type) cs hl (fun g hg => hS g (by simp [hg])) hc (fun g hg => hx g (by simp [hg]))
  have hsp : cs.drop off = (cs.drop off).take (P.cellsOf f.type) ++ cs.drop (off + P.cellsOf f.type) := by
   rw [← List.drop_drop]; exact (List.take_append_drop _ _).symm
  refine ⟨p ++ q,⟨p,q,rfl,h1,h4⟩,?_,fun v hv => ?_⟩
  ·rw [hsp]; exact RelL.append h2 h5
  ·rw [hsp] at hv
   rcases List.mem_append.1 hv with hv | hv
   ·exact h3 v hv
   ·exact h6 v hv
theorem elems_trod {n : Nat} {e : TypeId} (ih : ∀ cs x,DataW.trod enc P w 0 spare true n e cs = some x → cs.length = P.cellsOf e → ∃ pvs,HasTy P n e pvs ∧ RelL (Kn.start w) pvs cs ∧ ∀ v ∈ cs,v.oneCell' = true) {a : Addr} (ha : a.spot = none) :
  ∀ (k j : Nat),(∀ i,j ≤ i → i < j + k → ∃ x,((w.cells? 0 (a.add (i * P.cellsOf e)) (P.cellsOf e)).bind (DataW.trod enc P w 0 spare true n e)) = some x) →
   ∃ es,es.length = k ∧ (∀ x ∈ es,HasTy P n e x) ∧ RelE (Kn.start w) (P.cellsOf e) a.block (a.off + j * P.cellsOf e) es
 | 0,j,_ => ⟨[],rfl,by simp,trivial⟩
 | k + 1,j,h => by
  obtain ⟨es,h1,h2,h3⟩ := elems_trod ih ha k (j + 1) (fun i hi hi' => h i (by omega) (by omega))
  obtain ⟨x,hx⟩ := h j (Nat.le_refl _) (by omega)
  simp only [Option.bind_eq_some_iff] at hx
  obtain ⟨cs,hcs,hx⟩ := hx
  unfold World.cells? at hcs
  rw [if_pos (Nat.zero_le _)] at hcs
  have hcs' : ((List.range (P.cellsOf e)).map (· + 0)).mapM (fun i => w.cell? ((a.add (j * P.cellsOf e)).add i)) = some cs := by simpa using hcs
  obtain ⟨hl,hg⟩ := mapM_get hcs'
  obtain ⟨p,h4,h5,h6⟩ := ih cs x hx hl
  have hadd : ∀ i,(a.add (j * P.cellsOf e)).add i = ⟨a.block,a.off + j * P.cellsOf e + i,none⟩ := by
   intro i
   obtain ⟨b,o,s⟩ := a
   simp only at ha; subst ha
   rw [add_plain,add_plain]
  have hm : RelM (Kn.start w) a.block (a.off + j * P.cellsOf e) p := relM_of h5 h6 fun i v hi => by
   have hlt := (List.getElem?_eq_some_iff.1 hi).1
   have := hg i (by omega)
   rw [hadd,hi] at this
   simpa using this
  refine ⟨p :: es,by simp [h1],fun y hy => ?_,⟨by rw [h5.length,hl],hm,?_⟩⟩
  ·rcases List.mem_cons.1 hy with rfl | hy
   ·exact h4
   ·exact h2 y hy
  ·rwa [show a.off + j * P.cellsOf e + P.cellsOf e = a.off + (j + 1) * P.cellsOf e by rw [Nat.add_mul]; omega]
theorem trod_has (hS : tysOK P S = true) : ∀ (n : Nat) (t : TypeId),t ∈ S → ∀ cs x,DataW.trod enc P w 0 spare true n t cs = some x → cs.length = P.cellsOf t → ∃ pvs,HasTy P n t pvs ∧ RelL (Kn.start w) pvs cs ∧ ∀ v ∈ cs,v.oneCell' = true
 | 0,t,_,cs,x,h,_ => by simp [DataW.trod] at h
 | n + 1,t,ht,cs,x,h,hlen => by
  have hS' := List.all_eq_true.1 hS t ht
  have ih := trod_has hS n
  cases hu : P.underlying t with
  | none => rw [hu] at hS'; simp at hS'
  | some d =>
   rw [hu] at hS'
   have one : ∀ (v : Value) (p : PV),cs = [v] → RelV (Kn.start w) p v → v.oneCell' = true → HasTy P (n + 1) t [p] → ∃ pvs,HasTy P (n + 1) t pvs ∧ RelL (Kn.start w) pvs cs ∧ ∀ v ∈ cs,v.oneCell' = true := by
    rintro v p rfl h1 h2 h3
    exact ⟨[p],h3,⟨v,[],rfl,h1,rfl⟩,by simpa using h2⟩
   cases d <;> simp only [Bool.false_eq_true] at hS' <;> unfold DataW.trod at h <;> rw [hu] at h
   case bool =>
    split at h <;> first | (cases h; done) | (rename_i hh; cases hh; done) | skip
    rename_i b hh
    exact one _ (.b b) rfl rfl rfl (by simp only [HasTy,hu]; exact ⟨b,rfl⟩)
   case int k =>
    split at h <;> first | (cases h; done) | (rename_i hh; cases hh; done) | skip
    rename_i k1 k2 m hh
    cases hh
    split at h
    ·rename_i hk
     obtain ⟨rfl,hk⟩ := hk
     exact one _ (.k (.int k2 m)) rfl rfl rfl (by simp only [HasTy,hu]; exact ⟨m,rfl,hk⟩)
    ·cases h
   case string =>
    split at h <;> first | (cases h; done) | (rename_i hh; cases hh; done) | skip
    rename_i s hh
    split at h
    ·rename_i hk
     exact one _ (.s s) rfl rfl rfl (by simp only [HasTy,hu]; exact ⟨s,rfl,hk⟩)
    ·cases h
   case slice e =>
    simp only [Bool.and_eq_true,List.contains_eq_mem,decide_eq_true_eq,beq_iff_eq] at hS'
    have hS' := hS'.1
    split at h <;> first | (cases h; done) | (rename_i hh; cases hh; done) | skip
    ·rename_i e1 hh
     cases hh
     exact one _ (.sl false []) rfl ⟨none,0,0,rfl,Nat.le_refl _,by simp,by simp⟩ rfl (by simp only [HasTy,hu]; exact ⟨[],rfl,Nat.zero_le _,by simp⟩)
    ·rename_i e1 ad len cap hh
     cases hh
     simp only at h
     split at h
     ·rename_i hk
      simp only [Option.bind_eq_some_iff] at h
      obtain ⟨elems,hel,-⟩ := h
      have hall : ∀ i,i < len → ∃ x,((w.cells? 0 (ad.add (i * P.cellsOf e)) (P.cellsOf e)).bind (DataW.trod enc P w 0 spare true n e)) = some x := fun i hi => mapM_mem hel i (List.mem_range.2 hi)
      cases len with
      | zero => exact one _ (.sl false []) rfl ⟨some ad,cap,0,rfl,by simp,by simp,by simp⟩ rfl (by simp only [HasTy,hu]; exact ⟨[],rfl,Nat.zero_le _,by simp⟩)
      | succ len =>
       have hsp : ad.spot = none := by
        obtain ⟨y,hy⟩ := hall 0 (by omega)
        simp only [Option.bind_eq_some_iff] at hy
        obtain ⟨c0,hc0,-⟩ := hy
        unfold World.cells? at hc0
        rw [if_pos (Nat.zero_le _)] at hc0
        obtain ⟨z,hz⟩ := mapM_mem hc0 0 (List.mem_range.2 hS'.2)
        simp only [Nat.zero_mul,Addr.add,if_pos] at hz
        unfold World.cell? at hz
        cases hs : ad.spot with
        | none => rfl
        | some q =>
         rw [hs] at hz
         split at hz
         ·simp at hz
         ·cases hz
       obtain ⟨es,h1,h2,h3⟩ := elems_trod (fun cs x h h' => ih e hS'.1 cs x h h') hsp (len + 1) 0 (fun i _ hi => hall i (by omega))
       refine one _ (.sl false es) rfl ⟨some ad,cap,P.cellsOf e,by rw [h1],by rw [h1]; exact hk.2.1,by simp,fun _ => ⟨ad.block,ad.off,?_,?_⟩⟩ rfl (by simp only [HasTy,hu]; exact ⟨es,rfl,by rw [h1]; exact Nat.le_trans hk.2.1 hk.2.2,h2⟩)
       ·obtain ⟨b,o,s⟩ := ad
        simp only at hsp; subst hsp; rfl
       ·simpa using h3
     ·cases h
   case struct fs =>
    simp only [Bool.and_eq_true,List.all_eq_true,List.contains_eq_mem,decide_eq_true_eq] at hS'
    have h : (if cs.length = P.cellsOf t then (fs.toList.mapM fun f => DataW.trod enc P w 0 spare true n f.type ((cs.drop f.offset).take (P.cellsOf f.type))).map fun xs => (DataW.agg (xs.map (·.1)),xs.flatMap (·.2)) else none) = some x := h
    rw [if_pos hlen] at h
    simp only [Option.map_eq_some_iff] at h
    obtain ⟨xs,hxs,-⟩ := h
    obtain ⟨pvs,h1,h2,h3⟩ := tys_trod (w := w) (P := P) (spare := spare) (enc := enc) (S := S) (fun t ht cs x h hl => ih t ht cs x h hl) (P.cellsOf t) fs.toList 0 cs hlen hS'.1 hS'.2 (fun f hf => mapM_mem hxs f hf)
    exact ⟨pvs,by simp only [HasTy,hu]; exact h1,by simpa using h2,by simpa using h3⟩
def HasTyV (P : Program) (n : Nat) (t : TypeId) (p : PV) : Prop := ∃ cs,HasTy P n t cs ∧ match P.underlying t with
 | some (.struct _) => p = .agg cs
 | _ => cs = [p]
def HasTysV (P : Program) (n : Nat) : List TypeId → List PV → Prop
 | [],[] => True
 | t :: ts,p :: ps => HasTyV P n t p ∧ HasTysV P n ts ps
 | _,_ => False
theorem HasTy.le {P : Program} : ∀ {n m : Nat} {t : TypeId} {cs : List PV},n ≤ m → HasTy P n t cs → HasTy P m t cs
 | 0,_,_,_,_,h => by simp [HasTy] at h
 | n + 1,0,_,_,hm,_ => by omega
 | n + 1,m + 1,t,cs,hm,h => by
  have ih : ∀ (ts : List TypeId) (cs : List PV),Tys (HasTy P n) ts cs → Tys (HasTy P m) ts cs := by
   intro ts
   induction ts with
   | nil => intro cs h; exact h
   | cons t ts ih => intro cs h; obtain ⟨a,b,h1,h2,h3⟩ := h; exact ⟨a,b,h1,HasTy.le (by omega) h2,ih b h3⟩
  unfold HasTy at h ⊢
  split at h
  ·exact h
  ·exact h
  ·exact h
  ·obtain ⟨es,h1,h2,h3⟩ := h
   exact ⟨es,h1,h2,fun x hx => HasTy.le (by omega) (h3 x hx)⟩
  ·exact ih _ _ h
  ·exact h.elim
theorem args_of (hS : tysOK P S = true) {base : Nat} : ∀ (ts : List TypeId) (vs : List Value) (ds : List (DataW H)) (ps : List MemPlace),(∀ t ∈ ts,t ∈ S) →
  (∀ (j : Nat) t v,ts[j]? = some t → vs[j]? = some v → Value.okWide P w .any base t v) → DataW.TrodAll enc P w 0 spare true ts vs ds ps →
  ∃ n pvs,HasTysV P n ts pvs ∧ RelL (Kn.start w) pvs vs
 | [],[],ds,ps,_,_,_ => ⟨0,[],trivial,rfl⟩
 | [],_ :: _,ds,ps,_,_,h => by cases ds <;> simp [DataW.TrodAll] at h
 | _ :: _,[],ds,ps,_,_,h => by cases ds <;> simp [DataW.TrodAll] at h
 | _ :: _,_ :: _,[],ps,_,_,h => by simp [DataW.TrodAll] at h
 | t :: ts,v :: vs,d :: ds,ps,hin,hok,h => by
  obtain ⟨p,q,⟨fuel,h1⟩,h2,-⟩ := h
  have hokv := hok 0 t v rfl rfl
  obtain ⟨n,pvs,h3,h4⟩ := args_of hS ts vs ds q (fun t ht => hin t (by simp [ht])) (fun j t v ht hv => hok (j + 1) t v (by simpa using ht) (by simpa using hv)) h2
  have ht := hin t (by simp)
  have hst := List.all_eq_true.1 hS t ht
  have fin : ∀ p,HasTyV P fuel t p → RelV (Kn.start w) p v → ∃ n pvs,HasTysV P n (t :: ts) pvs ∧ RelL (Kn.start w) pvs (v :: vs) := by
   intro p ⟨cs,g1,g2⟩ g3
   refine ⟨max fuel n,p :: pvs,⟨⟨cs,g1.le (by omega),g2⟩,?_⟩,⟨v,vs,rfl,g3,h4⟩⟩
   have up : ∀ (ts : List TypeId) (pvs : List PV),HasTysV P n ts pvs → HasTysV P (max fuel n) ts pvs := by
    intro ts
    induction ts with
    | nil => intro pvs h; cases pvs <;> exact h
    | cons t ts ih =>
     intro pvs h
     cases pvs with
     | nil => exact h
     | cons p ps => obtain ⟨⟨cs,k1,k2⟩,k3⟩ := h; exact ⟨⟨cs,k1.le (by omega),k2⟩,ih ps k3⟩
   exact up ts pvs h3
  have scalar : (∀ fs,P.underlying t ≠ some (.struct fs)) → P.cellsOf t = 1 → v.cells = #[v] → ∃ n pvs,HasTysV P n (t :: ts) pvs ∧ RelL (Kn.start w) pvs (v :: vs) := by
   intro k1 k2 k3
   obtain ⟨cs,h5,h6,h7⟩ := trod_has (w := w) hS fuel t ht v.cells.toList _ h1 (by rw [k3,k2]; rfl)
   rw [k3] at h6
   have hl := h6.length
   match cs,h6 with
   | [p],h6 =>
    simp only [RelL] at h6
    obtain ⟨u,l,e1,e2,rfl⟩ := h6
    simp only [List.cons.injEq,and_true] at e1
    subst e1
    refine fin p ⟨[p],h5,?_⟩ e2
    split
    ·rename_i fs hfs; exact absurd hfs (k1 fs)
    ·rfl
   | [],h6 => simp at hl
   | _ :: _ :: _,h6 => simp at hl
  cases hu : P.underlying t with
  | none => rw [hu] at hst; simp at hst
  | some dd =>
   rw [hu] at hst
   unfold Value.okWide at hokv
   rw [hu] at hokv
   cases dd <;> simp only [Bool.false_eq_true] at hst
   case bool =>
    simp only [beq_iff_eq] at hst
    simp only [Cell.okWide,Cell.ok,hu] at hokv
    refine scalar (fun fs h => by simp [hu] at h) hst ?_
    cases v <;> first | rfl | exact hokv.elim
   case int k =>
    simp only [beq_iff_eq] at hst
    simp only [Cell.okWide,Cell.ok,hu] at hokv
    refine scalar (fun fs h => by simp [hu] at h) hst ?_
    cases v <;> first | rfl | exact hokv.elim
   case string =>
    simp only [beq_iff_eq] at hst
    simp only [Cell.okWide,Cell.ok,hu] at hokv
    refine scalar (fun fs h => by simp [hu] at h) hst ?_
    cases v <;> first | rfl | exact hokv.elim
   case slice e =>
    simp only [Bool.and_eq_true,beq_iff_eq] at hst
    simp only [Cell.okWide,Cell.ok,hu] at hokv
    refine scalar (fun fs h => by simp [hu] at h) hst.2 ?_
    cases v <;> first | rfl | exact hokv.elim
   case struct fs =>
    obtain ⟨cs,rfl,hsz,-⟩ := hokv
    obtain ⟨pcs,h5,h6,h7⟩ := trod_has (w := w) hS fuel t ht _ _ h1 (by simpa [Value.cells] using hsz)
    exact fin (.agg pcs) ⟨pcs,h5,by rw [hu]⟩ ⟨cs,rfl,h6,h7⟩
end
end Go.Ev


namespace Go.Ev
def irClone (esz : Nat) (zero : List PV) : IF := ⟨1,
 .seq (.reg none [⟨some 2,.mov (.c (.sl true [])),none⟩] [0])
 (.seq (.seq (.reg none [⟨some 3,.mov (.t 0),none⟩,
  ⟨some 4,.slnil false (.t 3),none⟩] [0,4])
 (.cond (.t 4) (.seq (.reg none [⟨some 2,.mov (.c (.sl true [])),none⟩] [2])
  (.ret [2]))
 (.skip)))
 (.seq (.reg none [⟨some 5,.bslice esz 0 zero [],none⟩,
  ⟨some 6,.mov (.t 0),none⟩,
  ⟨some 7,.appo esz (.t 5) (.t 6),none⟩,
  ⟨some 2,.mov (.t 7),none⟩] [2])
 (.ret [2]))),
 [.t 2],6⟩
def cloneH (esz : Nat) : List PV → Sto → Option (Out × Sto)
 | [v],σ => match norm v with
  | .sl _ [] => some (.ret (.sl true []),σ)
  | .sl _ (e :: es) => if allLen esz (e :: es) && decide ((e :: es).length ≤ LIM) then some (.ret (.ow σ.length (e :: es).length (e :: es)),σ ++ [.tok esz (e :: es).length]) else none
  | _ => none
 | _,_ => none
section
variable {P : Program}
theorem noHook : @HookOK (CR P) P (fun _ => none) := fun f h hh => by cases hh
theorem noCalls : @CallsOK (CR P) P (fun _ _ _ _ => none) := fun _ _ _ _ _ h => by cases h
theorem cloneH_ok {f : FuncId} {esz : Nat} {zero : List PV} (hchk : chkF P f (irClone esz zero) = true) (hz : zero.length = esz) (hf : f < YB) (args : List PV) (σ : Sto) (r : Out × Sto) (hr : cloneH esz args σ = some r) :
  callable P f ∧ ∀ bars κ w (xs : Array Value),@INV (CR P) bars κ σ w → RelL κ args xs.toList → below.belowAll σ.length args = true → Calls P f xs w (@CallPost (CR P) bars κ σ w r) := by
 letI : CodeRel := CR P
 have hT : ∀ g fn,(fun g => if g = f then some (irClone esz zero) else none) g = some fn → chkF P g fn = true := by
  intro g fn h
  simp only at h
  split at h
  ·rename_i hg; subst hg; cases h; exact hchk
  ·cases h
 have hb := body_sound (P := P) (fun _ _ _ => Iff.rfl) hT noHook noCalls 0
 have hcall : callable P f := (hb [] f [.k (.slice none 0 0)] [] (.ret (.sl true []),[]) (by
  simp [body,hf,Nat.not_le.2 hf,irClone,evC,evOps,evOp1,wantedE,opE,ev,look,putE,restrict,argEnvM,argEnv,norm,ressE,resE,leave,pack])).1 hf
 refine ⟨hcall,fun bars κ w xs hi hrel hbl => ?_⟩
 unfold cloneH at hr
 split at hr
 ·rename_i v
  have hx : ∃ x,xs.toList = [x] ∧ RelV κ v x := by
   simp only [RelL] at hrel
   obtain ⟨x,l,e,h1,rfl⟩ := hrel
   exact ⟨x,e,h1⟩
  obtain ⟨x,hxl,hv⟩ := hx
  have hn := RelV.norm v x hv
  split at hr
  ·rename_i t hnv
   rw [hnv] at hn
   obtain ⟨a,cap,e',rfl,-⟩ := hn
   cases hr
   have hrun : body (fun g => if g = f then some (irClone esz zero) else none) (fun _ => none) (fun _ _ _ _ => none) (fun s x => iter s 0 x) bars f [.k (.slice a 0 cap)] σ = some (.ret (.sl true []),σ) := by
    cases a with
    | none => simp [body,hf,Nat.not_le.2 hf,irClone,evC,evOps,evOp1,wantedE,opE,ev,look,putE,restrict,argEnvM,argEnv,norm,ressE,resE,leave,pack]
    | some a => simp [body,hf,Nat.not_le.2 hf,irClone,evC,evOps,evOp1,wantedE,opE,ev,look,putE,restrict,argEnvM,argEnv,norm,ressE,resE,leave,pack,evp,hz,bslE,elemsOf,allLen,IOp.quiet]
   exact (((hb bars f _ σ _ hrun).2 κ w xs hi (by rw [hxl]; exact ⟨_,_,rfl,rfl,rfl⟩) rfl).1 hf)
  ·rename_i t e es hnv
   split at hr
   ·rename_i hc
    simp only [Bool.and_eq_true,decide_eq_true_eq] at hc
    cases hr
    have hrun : body (fun g => if g = f then some (irClone esz zero) else none) (fun _ => none) (fun _ _ _ _ => none) (fun s x => iter s 0 x) bars f [v] σ = some (.ret (.ow σ.length (e :: es).length (e :: es)),σ ++ [.tok esz (e :: es).length]) := by
     simp only [body,if_neg (Nat.not_le.2 hf),if_true,irClone,evC,evOps,evOp1,wantedE,opE,ev,look,putE,restrict,argEnvM,argEnv,hnv]
     simp [evC,evOps,evOp1,wantedE,opE,ev,look,putE,restrict,ressE,resE,leave,pack,evp,hz,bslE,elemsOf,hc.1,IOp.quiet]
     have := hc.2
     simp at this
     simp [this,look,putE,restrict,evC,evOps,evOp1,wantedE,opE,ev,ressE,resE,leave,pack]
    exact (((hb bars f _ σ _ hrun).2 κ w xs hi hrel hbl).1 hf)
   ·cases hr
  ·cases hr
 ·cases hr
end
end Go.Ev


namespace Go.Ev
noncomputable section
theorem xcall_mono {f g : Sem'} (h : LeS f g) : LeS (xcall f) (xcall g) := by
 intro l a b c r hr
 unfold xcall xcallF at hr ⊢
 have key : ∀ (args : List PV),((match f [] a args [] with
   | some (r,[]) => some (true,r,c)
   | some _ => (f l a b c).map fun p => (false,p)
   | none => none : Option (Bool × Out × Sto)).map (·.2)) = some r → ((match g [] a args [] with
   | some (r,[]) => some (true,r,c)
   | some _ => (g l a b c).map fun p => (false,p)
   | none => none : Option (Bool × Out × Sto)).map (·.2)) = some r := by
  intro args hr
  cases hf : f [] a args [] with
  | none => rw [hf] at hr; cases hr
  | some y =>
   rw [hf] at hr
   rw [h _ _ _ _ _ hf]
   obtain ⟨y1,y2⟩ := y
   cases y2 with
   | nil => exact hr
   | cons o os =>
    simp only [map_snd] at hr ⊢
    exact h _ _ _ _ _ hr
 split at hr
 ·rename_i hc; rw [if_pos hc]; exact key _ hr
 ·rename_i hc
  rw [if_neg hc]
  split at hr
  ·rename_i hc2; rw [if_pos hc2]; exact key _ hr
  ·rename_i hc2
   rw [if_neg hc2]
   rw [map_snd] at hr ⊢
   exact h _ _ _ _ _ hr
theorem Tends.xcall {fs : Nat → Sem'} {f : Sem'} (h : Tends fs f) : Tends (fun n => Ev.xcall (fs n)) (Ev.xcall f) := by
 refine ⟨fun n m hnm => xcall_mono (h.mono n m hnm),fun l a b c r hr => ?_⟩
 unfold Ev.xcall xcallF at hr ⊢
 have key : ∀ (args : List PV),((match f [] a args [] with
   | some (r,[]) => some (true,r,c)
   | some _ => (f l a b c).map fun p => (false,p)
   | none => none : Option (Bool × Out × Sto)).map (·.2)) = some r → ∃ n,((match fs n [] a args [] with
   | some (r,[]) => some (true,r,c)
   | some _ => (fs n l a b c).map fun p => (false,p)
   | none => none : Option (Bool × Out × Sto)).map (·.2)) = some r := by
  intro args hr
  cases hf : f [] a args [] with
  | none => rw [hf] at hr; cases hr
  | some y =>
   rw [hf] at hr
   obtain ⟨n,hn⟩ := h.hit _ _ _ _ _ hf
   obtain ⟨y1,y2⟩ := y
   cases y2 with
   | nil => exact ⟨n,by rw [hn]; exact hr⟩
   | cons o os =>
    simp only [map_snd] at hr
    obtain ⟨m,hm⟩ := h.hit _ _ _ _ _ hr
    refine ⟨max n m,?_⟩
    rw [h.mono n (max n m) (by omega) _ _ _ _ _ hn]
    simp only [map_snd]
    exact h.mono m (max n m) (by omega) _ _ _ _ _ hm
 split at hr
 ·rename_i hc; simp only [if_pos hc]; exact key _ hr
 ·rename_i hc
  simp only [if_neg hc]
  split at hr
  ·rename_i hc2; simp only [if_pos hc2]; exact key _ hr
  ·rename_i hc2
   simp only [if_neg hc2,map_snd]
   rw [map_snd] at hr
   exact h.hit _ _ _ _ _ hr
theorem body_hit {T : FuncId → Option IF} {H : Hook} {fs : Nat → Sem'} {g : Sem'} (h : Tends fs g) {bars : List Nat} {f : FuncId} {args : List PV} {σ : Sto} {r : Out × Sto} (hr : body T H g iterW bars f args σ = some r) :
  ∃ n,body T H (fs n) (fun s x => iter s n x) bars f args σ = some r := by
 unfold body at hr ⊢
 by_cases hy : YB ≤ f
 ·rw [if_pos hy] at hr
  obtain ⟨n,hn⟩ := roundE_hit h _ _ _ _ _ hr
  exact ⟨n,by rw [if_pos hy]; exact hn⟩
 rw [if_neg hy] at hr
 cases hH : H f with
 | some hk =>
  rw [hH] at hr
  exact ⟨0,by rw [if_neg hy]; exact hr⟩
 | none =>
  rw [hH] at hr
  simp only at hr
  cases hT : T f with
  | none => rw [hT] at hr; cases hr
  | some fn =>
   rw [hT] at hr
   simp only at hr
   by_cases hl : args.length = fn.np
   ·rw [if_pos hl] at hr
    by_cases hmode : fn.mode = 2
    ·rw [if_pos hmode] at hr
     cases ha : evD T (evC g iterW) (σ.length :: bars) fn.body (argEnv 0 args) σ with
     | none => rw [ha] at hr; cases hr
     | some y =>
      rw [ha] at hr
      obtain ⟨n,hn⟩ := evD_hit (evC_tends h) _ _ _ _ _ ha
      refine ⟨n,?_⟩
      rw [if_neg hy]
      simp only []
      rw [if_pos hl,if_pos hmode,hn]
      exact hr
    rw [if_neg hmode] at hr
    by_cases hm3 : fn.mode = 3
    ·rw [if_pos hm3] at hr; cases hr
    rw [if_neg hm3] at hr
    cases ha : evC g iterW (σ.length :: bars) fn.body (argEnvM fn.mode args) σ with
    | none => rw [ha] at hr; cases hr
    | some y =>
     rw [ha] at hr
     obtain ⟨n,hn⟩ := evC_hit h _ _ _ _ _ ha
     refine ⟨n,?_⟩
     rw [if_neg hy]
     simp only []
     rw [if_pos hl,if_neg hmode,if_neg hm3,hn]
     exact hr
   ·rw [if_neg hl] at hr; cases hr
def run2 (T : FuncId → Option IF) (H : Hook) : Nat → Sem'
 | 0,_,_,_,_ => none
 | k + 1,bars,f,args,σ => body T H (xcall (run2 T H k)) (fun s x => iter s k x) bars f args σ
theorem run2_mono {T : FuncId → Option IF} {H : Hook} : ∀ n m,n ≤ m → LeS (run2 T H n) (run2 T H m) := by
 intro n
 induction n with
 | zero => intro m _ l a b c r hr; cases hr
 | succ n ih =>
  intro m hm
  obtain ⟨m,rfl⟩ : ∃ l,m = l + 1 := ⟨m - 1,by omega⟩
  exact body_mono (xcall_mono (ih m (by omega))) (fun s t hst => iter_mono hst n m (by omega))
open Classical in
def runV (T : FuncId → Option IF) (H : Hook) : Sem' := fun bars f args σ => if h : ∃ r n,run2 T H n bars f args σ = some r then some h.choose else none
theorem runV_of {T : FuncId → Option IF} {H : Hook} {bars f args σ r n} (h : run2 T H n bars f args σ = some r) : runV T H bars f args σ = some r := by
 have hex : ∃ r n,run2 T H n bars f args σ = some r := ⟨r,n,h⟩
 unfold runV
 rw [dif_pos hex]
 obtain ⟨m,hm⟩ := hex.choose_spec
 have h1 := run2_mono (T := T) (H := H) m (max n m) (by omega) _ _ _ _ _ hm
 have h2 := run2_mono (T := T) (H := H) n (max n m) (by omega) _ _ _ _ _ h
 rw [h1] at h2
 exact h2
theorem runV_some {T : FuncId → Option IF} {H : Hook} {bars f args σ r} (h : runV T H bars f args σ = some r) : ∃ n,run2 T H n bars f args σ = some r := by
 unfold runV at h
 split at h
 ·rename_i hex
  obtain ⟨m,hm⟩ := hex.choose_spec
  cases h
  exact ⟨m,hm⟩
 ·cases h
theorem runV_tends (T : FuncId → Option IF) (H : Hook) : Tends (run2 T H) (runV T H) := ⟨run2_mono,fun _ _ _ _ _ h => runV_some h⟩
theorem runV_eq (T : FuncId → Option IF) (H : Hook) (bars : List Nat) (f : FuncId) (args : List PV) (σ : Sto) : runV T H bars f args σ = body T H (xcall (runV T H)) iterW bars f args σ := by
 have up : ∀ r,runV T H bars f args σ = some r → body T H (xcall (runV T H)) iterW bars f args σ = some r := by
  intro r hr
  obtain ⟨n,hn⟩ := runV_some hr
  cases n with
  | zero => cases hn
  | succ n => exact body_mono (xcall_mono (fun _ _ _ _ _ h => runV_of h)) (iter_leW n) _ _ _ _ _ hn
 have down : ∀ r,body T H (xcall (runV T H)) iterW bars f args σ = some r → runV T H bars f args σ = some r := by
  intro r hr
  obtain ⟨n,hn⟩ := body_hit (runV_tends T H).xcall hr
  exact runV_of (n := n + 1) hn
 cases h : body T H (xcall (runV T H)) iterW bars f args σ with
 | some r => exact down r h
 | none =>
  cases h' : runV T H bars f args σ with
  | none => rfl
  | some r => rw [up r h'] at h; cases h
section
variable [CodeRel] {P : Program}
theorem run2_sound (hK : ∀ ic c m,CodeRel.cd ic c m ↔ chkC P m ic c = true ∧ noRf ic = true) {T : FuncId → Option IF} (hT : ∀ f fn,T f = some fn → chkF P f fn = true) {H : Hook} (hH : HookOK P H) : ∀ k,CallsOK P (run2 T H k)
 | 0 => fun _ _ _ _ _ h => by cases h
 | k + 1 => body_sound hK hT hH (xcall_sound (run2_sound hK hT hH k)) k
theorem runV_sound (hK : ∀ ic c m,CodeRel.cd ic c m ↔ chkC P m ic c = true ∧ noRf ic = true) {T : FuncId → Option IF} (hT : ∀ f fn,T f = some fn → chkF P f fn = true) {H : Hook} (hH : HookOK P H) : CallsOK P (runV T H) := by
 intro bars f args σ r h
 obtain ⟨n,hn⟩ := runV_some h
 exact run2_sound hK hT hH n bars f args σ r hn
end
def callF (T : FuncId → Option IF) (H : Hook) (fn : IF) (bars : List Nat) (args : List PV) (σ : Sto) : Option (Out × Sto) :=
 match evC (xcall (runV T H)) iterW (σ.length :: bars) fn.body (argEnvM fn.mode args) σ with
 | some (.norm,env,σ') | some (.ret,env,σ') => (ressE env σ' fn.res).bind fun vs => (leave fn.mode σ.length (pack vs) σ').bind fun p => some (.ret p.1,p.2)
 | some (.pan v,_,σ') => if below σ.length v then some (.pan v,σ'.take σ.length) else none
 | _ => none
theorem runV_fn {T : FuncId → Option IF} {H : Hook} {n : FuncId} {fn : IF} (h1 : n < YB) (h2 : H n = none) (h3 : T n = some fn) (h4 : fn.mode ≠ 2) (h5 : fn.mode ≠ 3) (bars : List Nat) (args : List PV) (σ : Sto) (hl : args.length = fn.np) :
  runV T H bars n args σ = callF T H fn bars args σ := by
 rw [runV_eq]
 unfold body callF
 rw [if_neg (Nat.not_le.2 h1),h2]
 simp only []
 rw [h3]
 simp only []
 rw [if_pos hl,if_neg h4,if_neg h5]
 rfl
theorem xcall_closed {calls : Sem'} {bars : List Nat} {f : FuncId} {args : List PV} {σ : Sto} {r : Out} (h : calls [] f args [] = some (r,[])) (hb : below.belowAll 0 args = true) (hf : f < YB) : xcall calls bars f args σ = some (r,σ) := by
 unfold xcall xcallF
 rw [if_pos (by simp [hb,hf]),h]
 rfl
theorem xcall_open {calls : Sem'} {bars : List Nat} {f : FuncId} {args : List PV} {σ : Sto} (hb0 : below.belowAll 0 args = false) (hb : below.belowAll 0 (norm.normAll args) = false) : xcall calls bars f args σ = calls bars f args σ := by
 unfold xcall xcallF
 rw [if_neg (by simp [hb0]),if_neg (by simp [hb]),map_snd]
theorem xcall_round {calls : Sem'} {bars : List Nat} {l : Nat} {args : List PV} {σ : Sto} : xcall calls bars (YB + l) args σ = calls bars (YB + l) args σ := by
 unfold xcall xcallF
 rw [if_neg (by simp),if_neg (by simp),map_snd]
end
end Go.Ev


namespace Go.Ev
open Go.ChangeShapes Go.WideShapes Go.RowKit
theorem INV.start [CodeRel] (w : World) : INV [] (Kn.start w) [] w :=
 ⟨fun i ob hs => by simp at hs,fun i j b hi => by simp [own] at hi,fun b o v h => h,fun b h => absurd h (Nat.lt_irrefl 0),fun i ob hs => by simp at hs,fun n hn => by cases hn⟩
section
variable {H : Type} {enc : TypeId × Value → H} {P : Program}
theorem HasTy.below : ∀ (n : Nat) (t : TypeId) (cs : List PV),HasTy P n t cs → below.belowAll 0 cs = true
 | 0,t,cs,h => by simp [HasTy] at h
 | n + 1,t,cs,h => by
  have tys : ∀ (ts : List TypeId) (cs : List PV),Tys (HasTy P n) ts cs → below.belowAll 0 cs = true := by
   intro ts
   induction ts with
   | nil => intro cs h; simp only [Tys] at h; subst h; rfl
   | cons t ts ih =>
    intro cs h
    obtain ⟨a,b,rfl,h1,h2⟩ := h
    rw [belowAll_append,HasTy.below n t a h1,ih b h2]; rfl
  have es : ∀ (e : TypeId) (es : List (List PV)),(∀ x ∈ es,HasTy P n e x) → below.belowEs 0 es = true := by
   intro e es
   induction es with
   | nil => intro _; rfl
   | cons x r ih => intro h; simp only [below.belowEs,HasTy.below n e x (h x (by simp)),ih fun y hy => h y (by simp [hy])]; rfl
  unfold HasTy at h
  split at h
  ·obtain ⟨b,rfl⟩ := h; rfl
  ·obtain ⟨m,rfl,-⟩ := h; rfl
  ·obtain ⟨s,rfl,-⟩ := h; rfl
  ·obtain ⟨l,rfl,-,h⟩ := h
   simp only [below.belowAll,Ev.below,es _ _ h]; rfl
  ·exact tys _ _ h
  ·exact h.elim
theorem HasTysV.below {n : Nat} : ∀ (ts : List TypeId) (ps : List PV),HasTysV P n ts ps → below.belowAll 0 ps = true
 | [],[],_ => rfl
 | [],_ :: _,h => h.elim
 | _ :: _,[],h => h.elim
 | t :: ts,p :: ps,h => by
  obtain ⟨⟨cs,h1,h2⟩,h3⟩ := h
  have hb := HasTy.below n t cs h1
  have hp : Ev.below 0 p = true := by
   split at h2
   ·subst h2; simpa only [Ev.below] using hb
   ·subst h2; simpa only [below.belowAll,Bool.and_true] using hb
  simp only [below.belowAll,hp,HasTysV.below ts ps h3]; rfl
theorem trodAll_below (hl : laidOutB P = true) {W W' : World} (hb : Below W.heap.size W W') : ∀ {ts : List TypeId} {vs : List Value} {ds : List (DataW H)} {ps : List MemPlace},(∀ t ∈ ts,P.readableRec t = true ∧ t < P.types.size) →
  DataW.TrodAll enc P W 0 (fun _ => true) true ts vs ds ps → (∀ x ∈ ps,x.block < W.heap.size) → DataW.TrodAll enc P W' 0 (fun b => decide (b < W.heap.size)) true ts vs ds ps
 | [],vs,ds,ps,_,h,_ => by
  obtain ⟨rfl,rfl,rfl⟩ := trodAll_nil h
  exact trodAll_mk0
 | t :: ts,vs,ds,ps,ht,h,hlt => by
  obtain ⟨v,vs1,d,ds1,a,b,rfl,rfl,rfl,h1,h2⟩ := trodAll_cons h
  exact ⟨a,b,Below.trod hl (ht t (by simp)).1 (ht t (by simp)).2 h1 hb (fun x hx => hlt x (by simp [hx])),trodAll_below hl hb (fun u hu => ht u (by simp [hu])) h2 (fun x hx => hlt x (by simp [hx])),rfl⟩
theorem law_of {calls : Sem'} (hc : @CallsOK (CR P) P calls) {f : FuncId} {fn : Func} (hf : f < YB) {s : ChangeSpec} (hl : laidOutB P = true) {S : List TypeId} (hS : tysOK P S = true) (hpS : ∀ t ∈ fn.params.toList,t ∈ S)
  (hts : ∀ t ∈ fn.params.toList,P.readableRec t = true ∧ t < P.types.size) (hvars : s.vars = []) {tb : TypeId} (hres : fn.resultTypes = #[tb]) (htb : P.underlying tb = some .bool)
  (hfn : ∀ ds : List (DataW H),ds.length = fn.params.size → s.fn H ds = { results := [.lit (.bool true)],args := ds })
  (hrun : ∀ n pvs,HasTysV P n fn.params.toList pvs → calls [] f pvs [] = some (.ret (.b true),[])) {apart fresh handsOn : Bool}
  {W : World} {base : Nat} {args : Array Value} {ds gs : List (DataW H)} {before : List MemPlace}
  (hval : ∀ (j : Nat) t v,fn.params[j]? = some t → args[j]? = some v → Value.okWide P W .any base t v)
  (hW : DataW.Whole enc P fn.params.toList s.vars apart W args.toList ds gs before) :
  Calls P f args W fun e W' => ∃ v,e = .returned v ∧ s.post enc P fn apart fresh handsOn false W args v W' := by
 letI : CodeRel := CR P
 have hW' := hW
 obtain ⟨p,q,hA,hV,rfl,hfz,hnd⟩ := hW
 rw [hvars] at hV
 obtain ⟨rfl,rfl⟩ := trodVars_none hV
 obtain ⟨n,pvs,h1,h2⟩ := args_of (enc := enc) (w := W) (spare := fun _ => true) hS fn.params.toList args.toList ds p hpS (fun j t v ht hv => hval j t v (by simpa using ht) (by simpa using hv)) hA
 have hlen : ds.length = fn.params.size := by
  have : ∀ (ts : List TypeId) (vs : List Value) (ds : List (DataW H)) (ps : List MemPlace),DataW.TrodAll enc P W 0 (fun _ => true) true ts vs ds ps → ds.length = ts.length := by
   intro ts
   induction ts with
   | nil => intro vs ds ps h; obtain ⟨rfl,rfl,rfl⟩ := trodAll_nil h; rfl
   | cons t ts ih => intro vs ds ps h; obtain ⟨v,vs1,d,ds1,a,b,rfl,rfl,rfl,-,h2⟩ := trodAll_cons h; simp [ih _ _ _ h2]
  simpa using this _ _ _ _ hA
 have hbel : below.belowAll ([] : Sto).length pvs = true := HasTysV.below _ _ h1
 have hcall := (((hc [] f pvs [] _ (hrun n pvs h1)).2 (Kn.start W) W args (INV.start W) h2 hbel).1 hf)
 refine hcall.mono fun e W' hp => ?_
 obtain ⟨κ',g1,g2,g3,x,rfl,hx,-⟩ := hp
 have hx' : x = .bool true := hx
 subst hx'
 refine ⟨_,rfl,?_⟩
 have hb : Below W.heap.size W W' := ⟨g2.os,g2.tape,g2.output,g2.size,fun k hk => g2.keep k hk (fun i hi => by simp [own] at hi)⟩
 have hlt : ∀ x ∈ p,x.block < W.heap.size := fun x hx => by simpa using hW'.lt x (by simpa using hx)
 refine ⟨ds,[],p ++ [],[],p,[],hW',?_,?_,?_,?_,fun h => by cases h⟩
 ·rw [List.append_nil,hfn ds hlen,hres]
  exact trodAll_mk1 (shut_bool htb _)
 ·rw [List.append_nil,hfn ds hlen]
  exact trodAll_below hl hb hts hA hlt
 ·rw [hvars,List.append_nil,hfn ds hlen]
  exact rfl
 ·exact hb.frame _
end
end Go.Ev
