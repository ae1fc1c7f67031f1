/- Signatures: the program's check; finding a name. -/
import Derived.Test.YtcjblapcdbjoiaaGreatDoorEvN
import Derived.Test.YtcjblapcdbjoiaaGreatDoorEvH
set_option linter.unnecessarySimpa false
set_option linter.unusedVariables false
set_option linter.unusedSimpArgs false
set_option linter.unusedSectionVars false
namespace Go.Ev
def findI (l : List Dc) (s : ByteArray) (i : Int) : Int := match l with
 | [] => -1
 | a :: r => if a.name = s then i else findI r s (i + 1)
theorem findI_dup (l : List Dc) (s : ByteArray) : ∀ i : Int,0 ≤ i → decide (0 ≤ findI l s i) = dup l s := by
 induction l with
 | nil => intro i h; simp [findI,dup]
 | cons a r ih =>
  intro i h
  unfold findI
  by_cases ha : a.name = s
  ·simp [ha,h,dup]
  ·simp only [ha,if_false]; rw [ih (i + 1) (by omega)]; simp [dup,ha]
theorem findI_no (l : List Dc) (s : ByteArray) : ∀ i : Int,dup l s = false → findI l s i = -1 := by
 induction l with
 | nil => intro i h; rfl
 | cons a r ih =>
  intro i h
  simp only [dup,List.any_cons,Bool.or_eq_false_iff,decide_eq_false_iff_not] at h
  rw [findI,if_neg h.1]
  exact ih _ h.2
theorem ref05_Find_spec (sig : List Dc) (s : ByteArray) (hl : sig.length < 2 ^ 63) : runV TT HH [] n_ref05_Find [.sl false (encL sig),.s s] [] = some (.ret (.i (findI sig s 0)),[]) := by
 rw [eq_ref05_Find]
 have hlo := LO_list (T := TT) (H := HH) (b := [0]) (A := ir_ref05_FindL0) sig
  (fun i (_ : Unit) => ([(1,.s s),(7,.sl false (encL sig)),(8,.i sig.length),(9,.i i)],[]))
  (fun r i _ => if dup r s then (.ret,[(4,.i (findI r s i))],[]) else (.exit 0,[],[]))
  (fun _ _ => True)
  (fun _ _ => by
   rw [E_EK]
   simp [ir_ref05_FindL0,dup])
  (fun i x r _ hx hm hd hi _ => by
   have e1 : (i : Int) < sig.length := by omega
   have hw : IntKind.i64.wrap ((i : Int) + 1) = (i : Int) + 1 := wrap_small _ (by omega) (by omega)
   by_cases h : x.name = s
   ·refine .inl ⟨?_,by simp [dup,h]⟩
    rw [E_EK]
    simp [ir_ref05_FindL0,e1,hx,hw,h,dup,findI]
   ·refine .inr ⟨(),?_,trivial,by simp only [dup,List.any_cons,h,decide_false,Bool.false_or,findI,if_false]; push_cast; rfl⟩
    rw [E_EK]
    simp [ir_ref05_FindL0,e1,hx,hw,h]) 0 () (by omega) trivial
 simp only [List.drop_zero] at hlo
 have hn := findI_no sig s 0
 cases hd : dup sig s <;> simp [hd] at hlo hn <;> simp [ir_ref05_Find,hl,hlo,hn]
def sents (l : List ByteArray) : List (Value × PV) := l.map fun s => (.string s,.b true)
def inL (l : List ByteArray) (s : ByteArray) : Bool := l.any fun x => decide (x = s)
theorem mget_sents (s : ByteArray) : ∀ l,mget true (sents l) (.string s) = some (if inL l s = true then some (.b true) else none)
 | [] => by simp [sents,mget,inL]
 | a :: r => by
  have ih := mget_sents s r
  simp only [sents,List.map_cons,mget,keyEq,if_true,inL,List.any_cons] at ih ⊢
  by_cases h : a = s
  ·simp [h]
  ·simp only [h,decide_false,ih,Bool.false_or]
   first | rfl | (split <;> simp_all)
theorem mput_sents (s : ByteArray) : ∀ l,inL l s = false → mput true (sents l) (.string s) (.b true) = some (sents (l ++ [s]))
 | [],_ => by simp [sents,mput,keyEq]
 | a :: r,hn => by
  simp only [inL,List.any_cons,Bool.or_eq_false_iff,decide_eq_false_iff_not] at hn
  have ih := mput_sents s r hn.2
  simp only [sents,List.map_cons,mput,keyEq,if_true] at ih ⊢
  simp only [hn.1,decide_false,ih]
  simp
def chkA : IC := (rs [mv 4 12] [2,3,4,13] (rg [al 5 z6,st 6 5 13] [2,3,4,5]))
def chkB : IC := (.block 1 (.seq (rs [ld 14 3,fa 15 0 5,ld 16 15,o_ 17 (.lookup true (.b false) (.t 14) (.t 16) false),mv 18 17,gf (mv 19 4) 18,gf (ln 20 6 5) 18,gf (cl 21 n_sign_formed [19,20]) 18,gf (nt 22 21) 18,po 23 18 22] [2,3,5,23] (cd 23 (rs [p_ (.store 1 (.t 2) (.c (.i 2)))] [] (.ret [])) ik)) (rg [ld 24 3,fa 25 0 5,ld 26 25,p_ (.mupd true (.t 24) (.t 26) (.c (.b true)))] [])))
def CS (sig : List Dc) (names : List ByteArray) (rv : Int) (st : Nat) (pend : Option (Option Nat)) : Sto :=
 [.var [.i rv],.mp (sents names),.var [.map 1],.var [.sl false (encL sig)],.loop [(2,.ptr 0 0),(3,.ptr 2 0)] [12,13] chkA chkB st pend]
def nms (l : List Dc) : List ByteArray := l.map (·.name)
theorem dup_nms (l : List Dc) (s : ByteArray) : dup l s = inL (nms l) s := by
 simp only [dup,nms,inL,List.any_map]; rfl
theorem chk_round (sig before : List Dc) (x : Dc) (bars : List Nat) (hl : before.length ≤ 1000) (hb : ∀ x ∈ before,x.class_.formed 1 = true) (hx : x.ok) :
  RR TT HH bars (YB + 4) [.sl false (encL before),x.enc] (CS sig (nms before) 0 0 none ++ [.var (Enc.cells x)]) =
  if okD before x && !dup before x.name then some (.ret (.b true),CS sig (nms (before ++ [x])) 0 0 none ++ [.var (Enc.cells x)]) else some (.ret (.b false),CS sig (nms before) 2 2 (some none) ++ [.var (Enc.cells x)]) := by
 rw [RR_yld (env := [(2,.ptr 0 0),(3,.ptr 2 0)]) (ps := [12,13]) (asg := chkA) (bd := chkB) rfl rfl]
 have h1 := RR_of (sign_formed_spec before x hl hb hx) (by simp) (by simp)
 have h2 := mget_sents x.name (nms before)
 have h3 := mput_sents x.name (nms before)
 rw [dup_nms]
 have hap : nms (before ++ [x]) = nms before ++ [x.name] := by simp [nms]
 rw [hap]
 unfold CS
 generalize nms before = N at *
 simp only [chkA,putArgs]
 simp
 simp [kR1]
 cases hd : inL N x.name
 ·have h3 := h3 hd
  cases hk : okD before x
  ·rw [hk] at h1
   simp [chkB,hd,h1,h2,dc_fold',kR2,pendE]
  ·rw [hk] at h1
   simp [chkB,hd,h1,h2,h3,dc_fold',kR2,pendE]
 ·simp [chkB,hd,h2,kR2,pendE]
theorem RR_keep {T : FuncId → Option IF} {H : Hook} {f : FuncId} {args : List PV} {r : Out} {x : Ob} {s : Sto} (h : runV T H [] f args [] = some (r,x :: s)) (hb : below.belowAll 0 args = true) (hf : f < YB) (bars : List Nat) (σ : Sto) : RR T H bars f args σ = runV T H bars f args σ := by
 unfold RR xcall xcallF
 rw [if_pos (by rw [hb,decide_eq_true hf]; rfl),h]
 simp only [map_snd]
theorem sign_each_spec (sig : List Dc) (bars : List Nat) (σ : Sto) : RR TT HH bars n_sign_each [.sl false (encL sig)] σ = some (.ret (.fn (.func n_sign_each_1) [.ptr σ.length 0]),σ ++ [.var [.sl false (encL sig)]]) := by
 have key : ∀ (bars : List Nat) (σ : Sto),runV TT HH bars n_sign_each [.sl false (encL sig)] σ = some (.ret (.fn (.func n_sign_each_1) [.ptr σ.length 0]),σ ++ [.var [.sl false (encL sig)]]) := fun bars σ => by
  rw [eq_sign_each]
  simp [ir_sign_each]
 rw [RR_keep (key [] []) (by simp) (by simp),key]
def sgN (before : List Dc) : List Dc → List Dc
 | [] => before
 | d :: r => if okD before d && !dup before d.name then sgN (before ++ [d]) r else before
theorem sgF_cons (b : List Dc) (d : Dc) (r : List Dc) : sgF b (d :: r) = (okD b d && !dup b d.name && sgF (b ++ [d]) r) := rfl
theorem sign_each_1_spec (sig : List Dc) (hl : sig.length ≤ 100) (hs : ∀ d ∈ sig,d.ok) (bars : List Nat) : runV TT HH bars n_sign_each_1 [.yld 4,.ptr 3 0] (CS sig [] 0 0 none) =
  some (.ret (.tup []),if sgF [] sig then CS sig (nms (sgN [] sig)) 0 0 none else CS sig (nms (sgN [] sig)) 2 2 (some none)) := by
 rw [eq_sign_each_1]
 have hl' : sig.length < 2 ^ 63 := by omega
 have hlo := LO_list (T := TT) (H := HH) (b := 5 :: bars) (A := ir_sign_each_1L0) sig
  (fun i (_ : Unit) => ([(0,.yld 4),(1,.ptr 3 0),(5,.sl false (encL sig)),(6,.i sig.length),(7,.i i)],CS sig (nms (sig.take i)) 0 0 none))
  (fun r i _ => if sgF (sig.take i) r then (.exit 0,[],CS sig (nms (sgN (sig.take i) r)) 0 0 none) else (.ret,[],CS sig (nms (sgN (sig.take i) r)) 2 2 (some none)))
  (fun i _ => ∀ x ∈ sig.take i,x.class_.formed 1 = true)
  (fun _ _ => by
   rw [E_EK]
   simp [ir_sign_each_1L0,sgF,sgN,CS])
  (fun i x r _ hx hm hdr hi hv => by
   have e1 : (i : Int) < sig.length := by omega
   have e2 : (i : Int) ≤ sig.length := by omega
   have e3 : i ≤ sig.length := by omega
   have hw : IntKind.i64.wrap ((i : Int) + 1) = (i : Int) + 1 := wrap_small _ (by omega) (by omega)
   have hc := fun bars => chk_round sig (sig.take i) x bars (by simp; omega) hv (hs x hm)
   have htk : sig.take (i + 1) = sig.take i ++ [x] := by rw [List.take_add_one,hx]; rfl
   cases hk : okD (sig.take i) x && !dup (sig.take i) x.name with
   | true =>
    simp only [hk,CS,if_true,dc_cells,List.cons_append,List.nil_append] at hc
    refine .inr ⟨(),?_,?_,?_⟩
    ·rw [E_EK,htk]
     simp [ir_sign_each_1L0,e1,e2,e3,hx,hw,hl',hc,dc_fold',CS]
    ·rw [htk]
     intro y hy
     rcases List.mem_append.1 hy with hy | hy
     ·exact hv y hy
     ·rw [List.mem_singleton] at hy
      subst hy
      simp only [Bool.and_eq_true] at hk
      have := hk.1
      simp only [okD,Bool.and_eq_true] at this
      exact proper_formed this.1.1.1.1.1
    ·rw [htk,sgF_cons,hk,Bool.true_and,sgN,hk,if_pos rfl]
   | false =>
    simp only [hk,CS,dc_cells,List.cons_append,List.nil_append,Bool.false_eq_true,if_false] at hc
    refine .inl ⟨?_,?_⟩
    ·rw [E_EK,sgF_cons,hk,Bool.false_and,sgN,hk]
     simp [ir_sign_each_1L0,e1,e2,e3,hx,hw,hl',hc,dc_fold',CS]
    ·rw [sgF_cons,hk]; simp) 0 () (by omega) (by simp)
 simp only [List.drop_zero,List.take_zero] at hlo
 cases hk : sgF [] sig <;> simp [hk,CS,nms] at hlo <;> simp [ir_sign_each_1,CS,hlo,hl',nms]
theorem sign_Check_spec (sig : List Dc) (hl : sig.length ≤ maxLen) (hs : ∀ d ∈ sig,d.ok) : runV TT HH [] n_sign_Check [.sl false (encL sig)] [] = some (.ret (.i (if sigOK sig then 0 else 2)),[]) := by
 rw [eq_sign_Check]
 have hl' := ml hl
 unfold sigOK
 by_cases h100 : sig.length ≤ 100
 ·have h100' : ¬ 100 < (sig.length : Int) := by omega
  have h1 := fun bars => sign_each_spec sig bars [.var [.i 0],.mp [],.var [.map 1]]
  have h2 : ∀ bars,RR TT HH bars n_sign_each_1 [.yld 4,.ptr 3 0] (CS sig [] 0 0 none) = _ := fun bars => by rw [RR_open (by simp) (by simp),sign_each_1_spec sig h100 hs bars]
  simp at h1
  simp [ir_sign_Check,hl',h100',h1,barsOk]
  cases hk : sgF [] sig with
  | true =>
   simp only [hk,if_true] at h2
   refine (K_rfunc (g := n_sign_each_1) (cap := [.ptr 3 0]) rfl (by simp) (h2 _) rfl rfl).trans ?_
   simp [CS,h100]
  | false =>
   simp only [hk] at h2
   refine (K_rfunc (g := n_sign_each_1) (cap := [.ptr 3 0]) rfl (by simp) (h2 _) rfl rfl).trans ?_
   simp [CS,h100]
 ·have h100' : 100 < (sig.length : Int) := by omega
  simp [ir_sign_Check,hl',h100',h100]
end Go.Ev


namespace Go.Ev
@[simp] theorem ba_empty : (⟨#[]⟩ : ByteArray) = ByteArray.empty := rfl
theorem isNm_empty : isNm ByteArray.empty = false := by simp [isNm,nmB]
theorem isNm_ne {s : ByteArray} (h : isNm s = true) : s ≠ ByteArray.empty := fun e => by rw [e,isNm_empty] at h; cases h
mutual
def Rw.pr : Rw → Int → Int → Bool × Int
 | .mk op name args,d,c => if 400 < c + 1 ∨ 40 < d then (false,c + 1) else if rshape op name args.length then Rw.prL args (d + 1) (c + 1) else (false,c + 1)
def Rw.prL : List Rw → Int → Int → Bool × Int
 | [],_,c => (true,c)
 | t :: r,d,c => if (t.pr d c).1 then Rw.prL r d (t.pr d c).2 else (false,(t.pr d c).2)
end
theorem rpr_eq' : ∀ (t : Rw) (d c : Int),t.pr d c = if 400 < c + 1 ∨ 40 < d then (false,c + 1) else if rshape t.op t.name t.args.length then Rw.prL t.args (d + 1) (c + 1) else (false,c + 1)
 | .mk _ _ _,_,_ => by rw [Rw.pr]; rfl
mutual
theorem rpr_eq : ∀ (t : Rw) (d c : Int),0 ≤ c → (t.pr d c).1 = (decide (c + t.nodes ≤ 400) && t.formed d) ∧ ((t.pr d c).1 = true → (t.pr d c).2 = c + t.nodes) ∧ c ≤ (t.pr d c).2
 | .mk op name args,d,c,h0 => by
  unfold Rw.pr Rw.formed Rw.nodes
  push_cast
  split
  ·rename_i h
   refine ⟨?_,by simp,by simp; omega⟩
   rcases h with h | h
   ·have : ¬ (c + (1 + (Rw.nodesL args : Int)) ≤ 400) := by omega
    simp [this]
   ·have : ¬ (d ≤ 40) := by omega
    simp [this]
  ·rename_i h
   have h40 : d ≤ 40 := by omega
   split
   ·rename_i hs
    obtain ⟨h1,h2,h3⟩ := rprL_eq args (d + 1) (c + 1) (by omega) (by omega)
    refine ⟨?_,fun hh => by have := h2 hh; omega,by omega⟩
    rw [h1]
    have e : (c + 1 + (Rw.nodesL args : Int) ≤ 400) = (c + (1 + (Rw.nodesL args : Int)) ≤ 400) := by rw [Int.add_assoc]
    simp [e,h40,hs]
   ·rename_i hs
    simp only [Bool.not_eq_true] at hs
    refine ⟨by simp [hs],by simp,by simp; omega⟩
theorem rprL_eq : ∀ (l : List Rw) (d c : Int),0 ≤ c → c ≤ 400 → (Rw.prL l d c).1 = (decide (c + Rw.nodesL l ≤ 400) && Rw.formedL l d) ∧ ((Rw.prL l d c).1 = true → (Rw.prL l d c).2 = c + Rw.nodesL l) ∧ c ≤ (Rw.prL l d c).2
 | [],d,c,h0,h1 => by
  unfold Rw.prL Rw.nodesL Rw.formedL
  simp [h1]
 | t :: r,d,c,h0,h1 => by
  unfold Rw.prL Rw.nodesL Rw.formedL
  push_cast
  obtain ⟨g1,g2,g3⟩ := rpr_eq t d c h0
  cases hp : (t.pr d c).1 with
  | false =>
   rw [hp] at g1
   refine ⟨?_,by simp,by simpa using g3⟩
   by_cases hn : c + t.nodes ≤ 400
   ·simp [hn] at g1
    simp [g1]
   ·have : ¬ (c + ((t.nodes : Int) + (Rw.nodesL r : Int)) ≤ 400) := by omega
    simp [this]
  | true =>
   rw [hp] at g1
   have g2 := g2 hp
   have g1' := g1.symm
   simp only [Bool.and_eq_true,decide_eq_true_eq] at g1'
   simp only [if_true]
   rw [g2]
   obtain ⟨k1,k2,k3⟩ := rprL_eq r d (c + t.nodes) (by omega) (by omega)
   refine ⟨?_,fun hh => by have := k2 hh; omega,by omega⟩
   rw [k1,g1'.2,Int.add_assoc]
   simp
end
theorem rpr_well (t : Rw) : (t.pr 1 0).1 = t.well := by
 rw [(rpr_eq t 1 0 (by omega)).1]
 unfold Rw.well
 rw [show decide ((0 : Int) + (t.nodes : Int) ≤ 400) = decide (t.nodes ≤ 400) from decide_eq_decide.2 (by omega)]
set_option maxHeartbeats 2000000 in
theorem syntax_formed_spec : ∀ t : Rw,t.ok → ∀ (p : Nat) (bars : List Nat) (σ : Sto) (d c : Int),0 ≤ d → d ≤ 41 → 0 ≤ c → c ≤ 400 → σ[p]? = some (.var [.i c]) → runV TT HH bars n_syntax_formed [t.enc,.i d,.ptr p 0] σ = some (.ret (.b (t.pr d c).1),σ.set p (.var [.i (t.pr d c).2])) :=
 Rw.ind fun t ih hok p bars σ d c h0 h1 h2 h3 hp => by
  rw [eq_syntax_formed,rpr_eq']
  have e3 := ml hok.len
  have hns : t.name.size < 2 ^ 63 := by cases hok; exact ml (by assumption)
  have hnm := RR_of (syntax_named_spec t.name hns) (by simp) (by simp)
  have hpl : p < σ.length := lt_of_get hp
  have hpl1 : p < σ.length + 1 := by omega
  have hw : IntKind.i64.wrap (c + 1) = c + 1 := wrap_small _ (by omega) (by omega)
  by_cases g : 400 < c + 1 ∨ 40 < d
  ·rw [if_pos g]
   by_cases g1 : 400 < c + 1
   ·simp [ir_syntax_formed,g1,hw,hp,hpl,-getElem?_pos,List.getElem?_cons_zero,List.getElem?_cons_succ,List.getElem?_nil,app_old,app_ge,set_old,set_ge,set_at,take_app,take_app1,take_set,take_set1,rw_fold']
   ·have g2 : 40 < d := by omega
    simp [ir_syntax_formed,g1,g2,hw,hp,hpl,-getElem?_pos,List.getElem?_cons_zero,List.getElem?_cons_succ,List.getElem?_nil,app_old,app_ge,set_old,set_ge,set_at,take_app,take_app1,take_set,take_set1,rw_fold']
  rw [if_neg g]
  have g1 : ¬ 400 < c + 1 := by omega
  have g2 : ¬ 40 < d := by omega
  have hlo := fun (o1 : Int) (o2 : ByteArray) => LO_list (T := TT) (H := HH) (b := σ.length :: bars) (A := ir_syntax_formedL0) t.args
   (fun i (c : Int) => ([(1,.i d),(2,.ptr p 0),(59,.sl false (encL t.args)),(60,.i t.args.length),(61,.i i)],σ.set p (.var [.i c]) ++ [.var [.i o1,.s o2,.sl false (encL t.args)]]))
   (fun r i c => if (Rw.prL r (d + 1) c).1 then (.exit 1,[],σ.set p (.var [.i (Rw.prL r (d + 1) c).2]) ++ [.var [.i o1,.s o2,.sl false (encL t.args)]]) else (.ret,[(6,.b false)],σ.set p (.var [.i (Rw.prL r (d + 1) c).2]) ++ [.var [.i o1,.s o2,.sl false (encL t.args)]]))
   (fun _ c => 0 ≤ c ∧ c ≤ 400)
   (fun c _ => by
    rw [E_EK]
    simp [ir_syntax_formedL0,e3,Rw.prL,hpl,-getElem?_pos,List.getElem?_cons_zero,List.getElem?_cons_succ,List.getElem?_nil,app_old,app_ge,set_old,set_ge,set_at,take_app,take_app1,take_set,take_set1])
   (fun i x r c hx hm hd hi ⟨q0,q1⟩ => by
    have e1 : (i : Int) < t.args.length := by omega
    have hw : IntKind.i64.wrap ((i : Int) + 1) = (i : Int) + 1 := wrap_small _ (by omega) (by omega)
    have hw1 : IntKind.i64.wrap (d + 1) = d + 1 := wrap_small _ (by omega) (by omega)
    obtain ⟨g1,g2,g3⟩ := rpr_eq x (d + 1) c q0
    have hc : ∀ bars a b,RR TT HH bars n_syntax_formed [x.enc,.i (d + 1),.ptr p 0] (σ.set p (.var [.i c]) ++ [a,b]) = some (.ret (.b (x.pr (d + 1) c).1),σ.set p (.var [.i (x.pr (d + 1) c).2]) ++ [a,b]) := by
     intro bars a b
     rw [RR_open (by simp) (by simp),ih x hm (hok.sub x hm) p bars _ (d + 1) c (by omega) (by omega) q0 q1 (by simp [hpl,-getElem?_pos,List.getElem?_cons_zero,List.getElem?_cons_succ,List.getElem?_nil,app_old,app_ge,set_old,set_ge,set_at,take_app,take_app1,take_set,take_set1])]
     simp [hpl,-getElem?_pos,List.getElem?_cons_zero,List.getElem?_cons_succ,List.getElem?_nil,app_old,app_ge,set_old,set_ge,set_at,take_app,take_app1,take_set,take_set1]
    have htk : ∀ y a b,(σ.set p y ++ [a,b]).take (σ.length + 1) = σ.set p y ++ [a] := fun y a b => by rw [take_set1]; rfl
    cases hx1 : (x.pr (d + 1) c).1 with
    | true =>
     rw [hx1] at hc g1
     refine .inr ⟨(x.pr (d + 1) c).2,?_,?_,by simp [Rw.prL,hx1]⟩
     ·rw [E_EK]
      simp [ir_syntax_formedL0,e1,e3,hx,hc,hw,hw1,rw_fold',hpl,hpl1,htk,-getElem?_pos,List.getElem?_cons_zero,List.getElem?_cons_succ,List.getElem?_nil,app_old,app_ge,set_old,set_ge,set_at,take_app,take_app1,take_set,take_set1]
     ·have := g1.symm
      simp only [Bool.and_eq_true,decide_eq_true_eq] at this
      have := g2 hx1
      omega
    | false =>
     rw [hx1] at hc
     refine .inl ⟨?_,by simp [Rw.prL,hx1]⟩
     rw [E_EK]
     simp [ir_syntax_formedL0,e1,e3,hx,hc,hw,hw1,rw_fold',hpl,hpl1,htk,Rw.prL,hx1,-getElem?_pos,List.getElem?_cons_zero,List.getElem?_cons_succ,List.getElem?_nil,app_old,app_ge,set_old,set_ge,set_at,take_app,take_app1,take_set,take_set1]) 0 (c + 1) (by omega) ⟨by omega,by omega⟩
  clear ih
  simp only [List.drop_zero] at hlo
  have fin : ∀ (o1 : Int) (o2 : ByteArray),LO TT HH (σ.length :: bars) ir_syntax_formedL0 ([(1,.i d),(2,.ptr p 0),(59,.sl false (encL t.args)),(60,.i t.args.length),(61,.i 0)],σ.set p (.var [.i (c + 1)]) ++ [.var [.i o1,.s o2,.sl false (encL t.args)]]) = _ := fun o1 o2 => hlo o1 o2
  clear hlo
  have hie := isNm_empty
  have hin : isNm t.name = true → ¬ t.name = ByteArray.empty := isNm_ne
  have key : ∀ ok,rshape t.op t.name t.args.length = ok → callF TT HH ir_syntax_formed bars [t.enc,.i d,.ptr p 0] σ = some (.ret (.b (if ok = true then Rw.prL t.args (d + 1) (c + 1) else (false,c + 1)).1),σ.set p (.var [.i (if ok = true then Rw.prL t.args (d + 1) (c + 1) else (false,c + 1)).2])) := by
   intro ok hsh
   cases hpr : (Rw.prL t.args (d + 1) (c + 1)).1 <;> simp [hpr] at fin
   all_goals simp [ir_syntax_formed,g1,g2,hw,hp,hpl,e3,hnm,fin,-getElem?_pos,List.getElem?_cons_zero,List.getElem?_cons_succ,List.getElem?_nil,app_old,app_ge,set_old,set_ge,set_at,take_app,take_app1,take_set,take_set1,tm_fold',rw_fold',dc_fold']
   all_goals repeat' ((first | refine kG_split ?_ ?_ | refine kIf_split ?_ ?_ | refine bB_split ?_ ?_ | refine kO_split ?_ ?_ | refine kCl_split ?_ ?_) <;> intro h <;> (try simp only [decide_eq_true_eq,decide_eq_false_iff_not,Bool.not_eq_true] at h) <;> simp [h,ir_syntax_formed,g1,g2,hw,hp,hpl,e3,hnm,fin,-getElem?_pos,List.getElem?_cons_zero,List.getElem?_cons_succ,List.getElem?_nil,app_old,app_ge,set_old,set_ge,set_at,take_app,take_app1,take_set,take_set1,tm_fold',rw_fold',dc_fold'])
   all_goals (clear fin; simp_all [rshape])
  exact key _ rfl
end Go.Ev


namespace Go.Ev
theorem syntax_Check_spec (t : Rw) (h : t.ok) : runV TT HH [] n_syntax_Check [t.enc] [] = some (.ret (.i (if t.well then 0 else 2)),[]) := by
 rw [eq_syntax_Check]
 have hc : ∀ bars,RR TT HH bars n_syntax_formed [t.enc,.i 1,.ptr 1 0] [.var (Enc.cells t),.var [.i 0]] = some (.ret (.b (t.pr 1 0).1),[.var (Enc.cells t),.var [.i (t.pr 1 0).2]]) := fun bars => by rw [RR_open (by simp) (by simp),syntax_formed_spec t h 1 bars _ 1 0 (by omega) (by omega) (by omega) (by omega) (by simp)]; rfl
 simp only [rw_cells] at hc
 have hp := rpr_well t
 simp [ir_syntax_Check,hc,hp,tm_fold',rw_fold',dc_fold']
 repeat' ((first | refine kG_split ?_ ?_ | refine kIf_split ?_ ?_ | refine bB_split ?_ ?_ | refine kO_split ?_ ?_ | refine kCl_split ?_ ?_) <;> intro h <;> (try simp only [decide_eq_true_eq,decide_eq_false_iff_not,Bool.not_eq_true] at h) <;> simp [h,ir_syntax_Check,hc,hp,tm_fold',rw_fold',dc_fold'])
 all_goals simp_all
mutual
def Rw.rnodes : Rw → Int → Int
 | .mk _ _ args,m => min (Rw.rnodesL args m 1) (m + 1)
def Rw.rnodesL : List Rw → Int → Int → Int
 | [],_,n => n
 | t :: r,m,n => if n ≤ m then Rw.rnodesL r m (n + t.rnodes (m - n)) else n
end
theorem rrnodes_eq' : ∀ (t : Rw) (m : Int),t.rnodes m = min (Rw.rnodesL t.args m 1) (m + 1)
 | .mk _ _ _,_ => by rw [Rw.rnodes]; rfl
mutual
theorem rrnodes_eq : ∀ (t : Rw) (m : Int),0 ≤ m → t.rnodes m = min (t.nodes : Int) (m + 1)
 | .mk op name args,m,h => by
  unfold Rw.rnodes Rw.nodes
  have := rrnodesL_eq args m 1 (by omega) (by omega)
  push_cast
  omega
theorem rrnodesL_eq : ∀ (l : List Rw) (m n : Int),0 ≤ n → n ≤ m + 1 → min (Rw.rnodesL l m n) (m + 1) = min (n + Rw.nodesL l : Int) (m + 1) ∧ 0 ≤ Rw.rnodesL l m n ∧ Rw.rnodesL l m n ≤ m + 1
 | [],m,n,h0,h1 => by unfold Rw.rnodesL Rw.nodesL; refine ⟨by simp,h0,h1⟩
 | t :: r,m,n,h0,h1 => by
  unfold Rw.rnodesL Rw.nodesL
  have ht := rwnodes_eq t
  push_cast
  split
  ·rename_i hn
   have g := rrnodes_eq t (m - n) (by omega)
   have := rrnodesL_eq r m (n + t.rnodes (m - n)) (by omega) (by omega)
   omega
  ·omega
end
theorem ref02_nodes_spec : ∀ t : Rw,t.ok → ∀ m : Int,0 ≤ m → m ≤ 100000 → runV TT HH [] n_ref02_nodes [t.enc,.i m] [] = some (.ret (.i (t.rnodes m)),[]) :=
 Rw.ind fun t ih hok m h0 h1 => by
  rw [eq_ref02_nodes,rrnodes_eq']
  have e3 := ml hok.len
  have hlo := LO_list (T := TT) (H := HH) (b := [0]) (A := ir_ref02_nodesL0) t.args
   (fun i (n : Int) => ([(1,.i m),(2,.ptr 0 0),(5,.i n),(6,.i i)],[.var (Enc.cells t)]))
   (fun r i n => (.exit 0,[(1,.i m),(5,.i (Rw.rnodesL r m n))],[.var (Enc.cells t)]))
   (fun _ n => 1 ≤ n ∧ n ≤ m + 1)
   (fun n _ => by
    rw [E_EK]
    simp [ir_ref02_nodesL0,e3,Rw.rnodesL])
   (fun i x r n hx hm hd hi ⟨q0,q1⟩ => by
    have e1 : (i : Int) < t.args.length := by omega
    by_cases hn : n ≤ m
    ·have hc := RR_of (ih x hm (hok.sub x hm) (m - n) (by omega) (by omega)) (by simp) (by simp)
     have hr := rrnodes_eq x (m - n) (by omega)
     have hw : IntKind.i64.wrap ((i : Int) + 1) = (i : Int) + 1 := wrap_small _ (by omega) (by omega)
     have hw1 : IntKind.i64.wrap (m - n) = m - n := wrap_small _ (by omega) (by omega)
     have hw2 : IntKind.i64.wrap (n + x.rnodes (m - n)) = n + x.rnodes (m - n) := wrap_small _ (by omega) (by omega)
     refine .inr ⟨n + x.rnodes (m - n),?_,by omega,by simp [Rw.rnodesL,hn]⟩
     rw [E_EK]
     simp [ir_ref02_nodesL0,e1,e3,hx,rw_fold',hc,hw,hw1,hw2,hn]
    ·refine .inl ⟨?_,by simp⟩
     rw [E_EK]
     simp [ir_ref02_nodesL0,e1,e3,hn,Rw.rnodesL]) 0 1 (by omega) ⟨by omega,by omega⟩
  simp at hlo
  have hw : IntKind.i64.wrap (m + 1) = m + 1 := wrap_small _ (by omega) (by omega)
  simp [ir_ref02_nodes,hlo,hw]
set_option maxHeartbeats 2000000 in
theorem ref02_formed_spec : ∀ t : Rw,t.ok → ∀ d : Int,0 ≤ d → d ≤ 41 → runV TT HH [] n_ref02_formed [t.enc,.i d] [] = some (.ret (.b (t.formed d)),[]) :=
 Rw.ind fun t ih hok d h0 h1 => by
  rw [eq_ref02_formed,rwformed_eq]
  have e3 := ml hok.len
  have hns : t.name.size < 2 ^ 63 := by cases hok; exact ml (by assumption)
  have hnm := RR_of (ref02_IsName_spec t.name hns) (by simp) (by simp)
  by_cases hd40 : d ≤ 40
  rotate_left
  ·have g1 : 40 < d := by omega
   simp [ir_ref02_formed,g1,hd40]
   repeat' ((first | refine kG_split ?_ ?_ | refine kIf_split ?_ ?_ | refine bB_split ?_ ?_ | refine kO_split ?_ ?_ | refine kCl_split ?_ ?_) <;> intro h <;> (try simp only [decide_eq_true_eq,decide_eq_false_iff_not,Bool.not_eq_true] at h) <;> simp [h,ir_ref02_formed,g1,hd40,tm_fold',rw_fold',dc_fold'])
  have g1 : ¬ (40 < d) := by omega
  have hlo := fun (o1 : Int) (o2 : ByteArray) => LO_list (T := TT) (H := HH) (b := [0]) (A := ir_ref02_formedL0) t.args
   (fun i (_ : Unit) => ([(1,.i d),(2,.ptr 0 0),(7,.i i)],[.var [.i o1,.s o2,.sl false (encL t.args)]]))
   (fun r i _ => if Rw.formedL r (d + 1) then (.exit 1,[],[.var [.i o1,.s o2,.sl false (encL t.args)]]) else (.ret,[(4,.b false)],[.var [.i o1,.s o2,.sl false (encL t.args)]]))
   (fun _ _ => True)
   (fun _ _ => by
    rw [E_EK]
    simp [ir_ref02_formedL0,e3,Rw.formedL])
   (fun i x r _ hx hm hd hi _ => by
    have hc := RR_of (ih x hm (hok.sub x hm) (d + 1) (by omega) (by omega)) (by simp) (by simp)
    have e1 : (i : Int) < t.args.length := by omega
    have hw : IntKind.i64.wrap ((i : Int) + 1) = (i : Int) + 1 := wrap_small _ (by omega) (by omega)
    have hw1 : IntKind.i64.wrap (d + 1) = d + 1 := wrap_small _ (by omega) (by omega)
    rw [E_EK]
    cases h : x.formed (d + 1) <;> simp [ir_ref02_formedL0,e1,e3,hx,rw_fold',hc,hw,hw1,h,Rw.formedL]) 0 () (by omega) trivial
  clear ih
  have hie := isNm_empty
  cases hf : Rw.formedL t.args (d + 1) <;> simp [hf] at hlo
  all_goals simp [ir_ref02_formed,g1,hd40,e3,hnm,hlo,tm_fold',rw_fold',dc_fold']
  all_goals repeat' ((first | refine kG_split ?_ ?_ | refine kIf_split ?_ ?_ | refine bB_split ?_ ?_ | refine kO_split ?_ ?_ | refine kCl_split ?_ ?_) <;> intro h <;> (try simp only [decide_eq_true_eq,decide_eq_false_iff_not,Bool.not_eq_true] at h) <;> simp [h,ir_ref02_formed,g1,hd40,e3,hnm,hlo,tm_fold',rw_fold',dc_fold'])
  all_goals (clear hlo; simp_all [rshape])
theorem ref02_Well_spec (t : Rw) (h : t.ok) : runV TT HH [] n_ref02_Well [t.enc] [] = some (.ret (.b t.well),[]) := by
 rw [eq_ref02_Well]
 have h1 := RR_of (ref02_nodes_spec t h 400 (by omega) (by omega)) (by simp) (by simp)
 have h2 := RR_of (ref02_formed_spec t h 1 (by omega) (by omega)) (by simp) (by simp)
 have h3 := rrnodes_eq t 400 (by omega)
 have h4 : decide (t.rnodes 400 ≤ 400) = decide (t.nodes ≤ 400) := decide_eq_decide.2 (by omega)
 simp [ir_ref02_Well,h1,h2,h4,tm_fold',rw_fold',dc_fold']
 repeat' ((first | refine kG_split ?_ ?_ | refine kIf_split ?_ ?_ | refine bB_split ?_ ?_ | refine kO_split ?_ ?_ | refine kCl_split ?_ ?_) <;> intro h <;> (try simp only [decide_eq_true_eq,decide_eq_false_iff_not,Bool.not_eq_true] at h) <;> simp [h,ir_ref02_Well,h1,h2,h4,tm_fold',rw_fold',dc_fold'])
 all_goals (simp_all [Rw.well] <;> omega)
end Go.Ev


namespace Go.Ev
theorem sz0 : (⟨#[32]⟩ : ByteArray).size = 1 := rfl
theorem sz1 : (⟨#[32,45,62,32]⟩ : ByteArray).size = 4 := rfl
theorem sz2 : (⟨#[123]⟩ : ByteArray).size = 1 := rfl
theorem sz3 : (⟨#[125]⟩ : ByteArray).size = 1 := rfl
theorem sz4 : (⟨#[91]⟩ : ByteArray).size = 1 := rfl
theorem sz5 : (⟨#[93]⟩ : ByteArray).size = 1 := rfl
theorem sz6 : (⟨#[58]⟩ : ByteArray).size = 1 := rfl
theorem sz7 : (⟨#[40]⟩ : ByteArray).size = 1 := rfl
theorem sz8 : (⟨#[41]⟩ : ByteArray).size = 1 := rfl
theorem sz9 : (⟨#[95]⟩ : ByteArray).size = 1 := rfl
theorem sz10 : (⟨#[125,32]⟩ : ByteArray).size = 2 := rfl
theorem sz11 : (⟨#[93,32]⟩ : ByteArray).size = 2 := rfl
theorem sz12 : (⟨#[116,121,112,101]⟩ : ByteArray).size = 4 := rfl
theorem l125 : (⟨#[125,32]⟩ : ByteArray) = ⟨#[125]⟩ ++ ⟨#[32]⟩ := rfl
theorem l93 : (⟨#[93,32]⟩ : ByteArray) = ⟨#[93]⟩ ++ ⟨#[32]⟩ := rfl
theorem rw_two {t : Rw} {d : Int} (h : t.formed d = true) (hop : t.op = 4 ∨ t.op = 5 ∨ t.op = 6 ∨ t.op = 7) : ∃ a b,t.args = [a,b] ∧ a.formed (d + 1) = true ∧ b.formed (d + 1) = true ∧ a.nodes + b.nodes + 1 ≤ t.nodes := by
 have hn := rwnodes_eq t
 rw [rwformed_eq] at h
 simp only [Bool.and_eq_true] at h
 obtain ⟨_,h1,h2⟩ := h
 have hl : (t.args.length : Int) = 2 := by
  simp only [rshape,Bool.or_eq_true,Bool.and_eq_true,decide_eq_true_eq] at h1
  omega
 match hl' : t.args,hl with
 | [a,b],_ =>
  rw [hl'] at h2 hn
  simp only [Rw.formedL,Bool.and_eq_true] at h2
  simp only [Rw.nodesL] at hn
  exact ⟨a,b,rfl,h2.1,h2.2.1,by omega⟩
 | [],h => simp at h
 | [_],h => simp at h
 | _ :: _ :: _ :: _,h => simp at h; omega
theorem rw_op {t : Rw} {d : Int} (h : t.formed d = true) : t.op = 1 ∨ t.op = 2 ∨ t.op = 3 ∨ t.op = 4 ∨ t.op = 5 ∨ t.op = 6 ∨ t.op = 7 := by
 rw [rwformed_eq] at h
 simp only [Bool.and_eq_true] at h
 have h1 := h.2.1
 simp only [rshape,Bool.or_eq_true,Bool.and_eq_true,decide_eq_true_eq] at h1
 omega
theorem rw_name {t : Rw} {d : Int} (h : t.formed d = true) : t.name.size ≤ 16 := by
 rw [rwformed_eq] at h
 simp only [Bool.and_eq_true] at h
 exact rshape_name h.2.1
theorem ref02_wide_spec (t : Rw) : runV TT HH [] n_ref02_wide [t.enc] [] = some (.ret (.b (wide t.op)),[]) := by
 rw [eq_ref02_wide]
 simp [ir_ref02_wide,tm_fold',rw_fold',dc_fold']
 repeat' ((first | refine kG_split ?_ ?_ | refine kIf_split ?_ ?_ | refine bB_split ?_ ?_ | refine kO_split ?_ ?_ | refine kCl_split ?_ ?_) <;> intro h <;> (try simp only [decide_eq_true_eq,decide_eq_false_iff_not,Bool.not_eq_true] at h) <;> simp [h,ir_ref02_wide,tm_fold',rw_fold',dc_fold'])
 all_goals simp_all [wide]
theorem ref02_within_spec (s : ByteArray) (b : Bool) (h : s.size ≤ 1000000) : runV TT HH [] n_ref02_within [.s s,.b b] [] = some (.ret (.s (par b s)),[]) := by
 rw [eq_ref02_within]
 cases b
 ·simp [ir_ref02_within,par]
 ·simp [ir_ref02_within,par,sOf]
  repeat (refine kO_if (by simp only [size_app,sz0,sz1,sz2,sz3,sz4,sz5,sz6,sz7,sz8,sz9,sz10,sz11,sz12,LIM] <;> omega) ?_; simp [par,sOf,rw_fold])
set_option maxHeartbeats 1000000 in
theorem ref02_Text_spec : ∀ t : Rw,t.ok → ∀ d : Int,t.formed d = true → t.nodes ≤ 400 → runV TT HH [] n_ref02_Text [t.enc] [] = some (.ret (.s t.text),[]) :=
 Rw.ind fun t ih hok d hf hn => by
  rw [eq_ref02_Text,text_eq]
  have hns := rw_name hf
  rcases rw_op hf with k | k | k | k | k | k | k
  ·simp [ir_ref02_Text,k,sType]
  ·simp [ir_ref02_Text,k]
  ·simp [ir_ref02_Text,k,sOf]
  all_goals
   obtain ⟨a,b,hab,ha,hb,hnn⟩ := rw_two hf (by omega)
   have hma : a ∈ t.args := by simp [hab]
   have hmb : b ∈ t.args := by simp [hab]
   have h1 := RR_of (ih a hma (hok.sub a hma) (d + 1) ha (by omega)) (by simp) (by simp)
   have h2 := RR_of (ih b hmb (hok.sub b hmb) (d + 1) hb (by omega)) (by simp) (by simp)
   have h3 := RR_of (ref02_wide_spec a) (by simp) (by simp)
   have h4 := RR_of (ref02_wide_spec b) (by simp) (by simp)
   have ta := text_size a (d + 1) ha
   have tb := text_size b (d + 1) hb
   clear ih
   obtain ⟨ao,an,al⟩ := a
   obtain ⟨bo,bn,bl⟩ := b
   simp only [Rw.op_mk] at h3 h4 ⊢
   generalize hxe : (Rw.mk ao an al).text = x at *
   generalize hye : (Rw.mk bo bn bl).text = y at *
   have h5 := fun c => RR_of (ref02_within_spec x c (by omega)) (by simp) (by simp)
   have h6 := fun c => RR_of (ref02_within_spec y c (by omega)) (by simp) (by simp)
   have px := fun c => par_size c x
   have py := fun c => par_size c y
  ·have p1 := px (wide ao)
   have p2 := py (wide bo || decide (bo = 4))
   have h6' := h6 (wide bo || decide (bo = 4))
   generalize hw : wide bo = w at *
   by_cases b4 : bo = 4
   ·subst b4
    cases w <;> simp at h6' p2 <;> simp [ir_ref02_Text,k,hab,h1,h2,h3,h4,h5,h6',encL_cons,sOf,rw_fold]
    all_goals repeat (refine kO_if (by simp only [size_app,sz0,sz1,sz2,sz3,sz4,sz5,sz6,sz7,sz8,sz9,sz10,sz11,sz12,LIM] <;> omega) ?_; simp [k,hab,h1,h2,h3,h4,h5,h6',encL_cons,sOf,rw_fold])
    all_goals simp only [hxe,hye,hw]
   ·cases w <;> simp [b4] at h6' p2 <;> simp [ir_ref02_Text,k,hab,h1,h2,h3,h4,h5,h6',b4,encL_cons,sOf,rw_fold]
    all_goals repeat (refine kO_if (by simp only [size_app,sz0,sz1,sz2,sz3,sz4,sz5,sz6,sz7,sz8,sz9,sz10,sz11,sz12,LIM] <;> omega) ?_; simp [k,hab,h1,h2,h3,h4,h5,h6',b4,encL_cons,sOf,rw_fold])
    all_goals simp only [hxe,hye,hw]
  ·by_cases a3 : ao = 3
   ·subst a3
    simp [ir_ref02_Text,k,hab,h1,h2,encL_cons,sOf,rw_fold]
    repeat (refine kO_if (by simp only [size_app,sz0,sz1,sz2,sz3,sz4,sz5,sz6,sz7,sz8,sz9,sz10,sz11,sz12,LIM] <;> omega) ?_; simp [k,hab,h1,h2,encL_cons,sOf,rw_fold])
    all_goals simp only [hxe,hye,l125,l93,ByteArray.append_assoc,ByteArray.append_empty,ByteArray.empty_append]
   ·simp [ir_ref02_Text,k,hab,h1,h2,a3,encL_cons,sOf,rw_fold]
    repeat (refine kO_if (by simp only [size_app,sz0,sz1,sz2,sz3,sz4,sz5,sz6,sz7,sz8,sz9,sz10,sz11,sz12,LIM] <;> omega) ?_; simp [k,hab,h1,h2,a3,encL_cons,sOf,rw_fold])
    all_goals simp only [hxe,hye,l125,l93,ByteArray.append_assoc,ByteArray.append_empty,ByteArray.empty_append]
  ·have p1 := px (wide ao)
   simp [ir_ref02_Text,k,hab,h1,h2,h3,h4,h5,encL_cons,sOf,rw_fold]
   repeat (refine kO_if (by simp only [size_app,sz0,sz1,sz2,sz3,sz4,sz5,sz6,sz7,sz8,sz9,sz10,sz11,sz12,LIM] <;> omega) ?_; simp [k,hab,h1,h2,h3,h4,h5,encL_cons,sOf,rw_fold])
   all_goals simp only [hxe,hye,l125,l93,ByteArray.append_assoc,ByteArray.append_empty,ByteArray.empty_append]
  ·by_cases a3 : ao = 3
   ·subst a3
    simp [ir_ref02_Text,k,hab,h1,h2,encL_cons,sOf,rw_fold]
    repeat (refine kO_if (by simp only [size_app,sz0,sz1,sz2,sz3,sz4,sz5,sz6,sz7,sz8,sz9,sz10,sz11,sz12,LIM] <;> omega) ?_; simp [k,hab,h1,h2,encL_cons,sOf,rw_fold])
    all_goals simp only [hxe,hye,l125,l93,ByteArray.append_assoc,ByteArray.append_empty,ByteArray.empty_append]
   ·simp [ir_ref02_Text,k,hab,h1,h2,a3,encL_cons,sOf,rw_fold]
    repeat (refine kO_if (by simp only [size_app,sz0,sz1,sz2,sz3,sz4,sz5,sz6,sz7,sz8,sz9,sz10,sz11,sz12,LIM] <;> omega) ?_; simp [k,hab,h1,h2,a3,encL_cons,sOf,rw_fold])
    all_goals simp only [hxe,hye,l125,l93,ByteArray.append_assoc,ByteArray.append_empty,ByteArray.empty_append]
end Go.Ev


namespace Go.Ev
theorem in3 (o : Int) : decide (o ∈ ([6,5,7] : List Int)) = wide o := by
 by_cases a : o = 6 <;> by_cases b : o = 5 <;> by_cases c : o = 7 <;> simp [wide,a,b,c]
theorem in4 (o : Int) : decide (o ∈ ([4,6,5,7] : List Int)) = (wide o || decide (o = 4)) := by
 by_cases a : o = 6 <;> by_cases b : o = 5 <;> by_cases c : o = 7 <;> by_cases d : o = 4 <;> simp [wide,a,b,c,d]
set_option maxHeartbeats 2000000 in
theorem syntax_text_spec : ∀ t : Rw,t.ok → ∀ (d : Int) (tt : Bool) (l : List Int),t.formed d = true → t.nodes ≤ 400 → l.length ≤ 10 → runV TT HH [] n_syntax_text [t.enc,.sl tt (encL l)] [] = some (.ret (.s (par (decide (t.op ∈ l)) t.text)),[]) :=
 Rw.ind fun t ih hok d tt l hf hn hl => by
  have hC := RR_of (slices_Contains_of_int_int_spec l t.op (by omega)) (by simp) (by simp)
  have hts := text_size t d hf
  rw [eq_syntax_text]
  have hns := rw_name hf
  generalize hm : decide (t.op ∈ l) = m at hC ⊢
  have hte := text_eq t
  rcases rw_op hf with k | k | k | k | k | k | k
  ·rw [k] at hC
   simp [k] at hte
   rw [hte]
   cases m <;> simp [ir_syntax_text,k,hC,par,sType,sOf]
   all_goals repeat (refine kO_if (by simp only [size_app,sz0,sz1,sz2,sz3,sz4,sz5,sz6,sz7,sz8,sz9,sz10,sz11,sz12,LIM] <;> omega) ?_; simp [k,hC,par,sOf,rw_fold])
  ·rw [k] at hC
   simp [k] at hte
   rw [hte] at hts ⊢
   cases m <;> simp [ir_syntax_text,k,hC,par,sOf]
   all_goals repeat (refine kO_if (by simp only [size_app,sz0,sz1,sz2,sz3,sz4,sz5,sz6,sz7,sz8,sz9,sz10,sz11,sz12,LIM] <;> omega) ?_; simp [k,hC,par,sOf,rw_fold])
  ·rw [k] at hC
   simp [k] at hte
   rw [hte]
   cases m <;> simp [ir_syntax_text,k,hC,par,sOf]
   all_goals repeat (refine kO_if (by simp only [size_app,sz0,sz1,sz2,sz3,sz4,sz5,sz6,sz7,sz8,sz9,sz10,sz11,sz12,LIM] <;> omega) ?_; simp [k,hC,par,sOf,rw_fold])
  all_goals
   rw [k] at hC
   obtain ⟨a,b,hab,ha,hb,hnn⟩ := rw_two hf (by omega)
   have hma : a ∈ t.args := by simp [hab]
   have hmb : b ∈ t.args := by simp [hab]
   have h1 : ∀ bars σ,RR TT HH bars n_syntax_text [a.enc,.sl true [[.i 6],[.i 5],[.i 7]]] σ = some (.ret (.s (par (wide a.op) a.text)),σ) := by
    have := RR_of (ih a hma (hok.sub a hma) (d + 1) true [6,5,7] ha (by omega) (by simp)) (by simp) (by simp)
    rw [in3] at this
    exact this
   have h2 : ∀ bars σ,RR TT HH bars n_syntax_text [b.enc,.sl true [[.i 4],[.i 6],[.i 5],[.i 7]]] σ = some (.ret (.s (par (wide b.op || decide (b.op = 4)) b.text)),σ) := by
    have := RR_of (ih b hmb (hok.sub b hmb) (d + 1) true [4,6,5,7] hb (by omega) (by simp)) (by simp) (by simp)
    rw [in4] at this
    exact this
   have h3 : ∀ bars σ,RR TT HH bars n_syntax_text [a.enc,.sl true []] σ = some (.ret (.s a.text),σ) :=
    RR_of (ih a hma (hok.sub a hma) (d + 1) true [] ha (by omega) (by simp)) (by simp) (by simp)
   have h4 : ∀ bars σ,RR TT HH bars n_syntax_text [b.enc,.sl true []] σ = some (.ret (.s b.text),σ) :=
    RR_of (ih b hmb (hok.sub b hmb) (d + 1) true [] hb (by omega) (by simp)) (by simp) (by simp)
   have ta := text_size a (d + 1) ha
   have tb := text_size b (d + 1) hb
   clear ih
   have px := par_size (wide a.op) a.text
   have py := par_size (wide b.op || decide (b.op = 4)) b.text
   simp [k,hab] at hte
   generalize hw : (wide b.op || decide (b.op = 4)) = w at h2 py hte
   obtain ⟨ao,an,al⟩ := a
   obtain ⟨bo,bn,bl⟩ := b
   simp only [Rw.op_mk] at h1 h3 px hte
  ·generalize par (wide ao) (Rw.mk ao an al).text = x at *
   generalize par w (Rw.mk bo bn bl).text = y at *
   simp only [sOf] at hte
   rw [hte] at hts ⊢
   cases m <;> simp [ir_syntax_text,k,hab,h1,h2,hC,par,encL_cons,sOf,rw_fold]
   all_goals repeat (refine kO_if (by simp only [size_app,sz0,sz1,sz2,sz3,sz4,sz5,sz6,sz7,sz8,sz9,sz10,sz11,sz12,LIM] <;> omega) ?_; simp [k,hab,h1,h2,hC,par,encL_cons,sOf,rw_fold])
  ·by_cases a3 : ao = 3
   ·subst a3
    simp [sOf] at hte
    generalize (Rw.mk bo bn bl).text = y at *
    rw [hte]
    cases m <;> simp [ir_syntax_text,k,hab,h4,hC,par,encL_cons,sOf,rw_fold]
    all_goals repeat (refine kO_if (by simp only [size_app,sz0,sz1,sz2,sz3,sz4,sz5,sz6,sz7,sz8,sz9,sz10,sz11,sz12,LIM] <;> omega) ?_; simp [k,hab,h4,hC,par,encL_cons,sOf,rw_fold])
    all_goals simp only [ByteArray.append_assoc,ByteArray.append_empty,ByteArray.empty_append]
   ·simp [a3,sOf] at hte
    generalize (Rw.mk bo bn bl).text = y at *
    generalize (Rw.mk ao an al).text = x at *
    rw [hte]
    cases m <;> simp [ir_syntax_text,k,hab,h3,h4,a3,hC,par,encL_cons,sOf,rw_fold]
    all_goals repeat (refine kO_if (by simp only [size_app,sz0,sz1,sz2,sz3,sz4,sz5,sz6,sz7,sz8,sz9,sz10,sz11,sz12,LIM] <;> omega) ?_; simp [k,hab,h3,h4,a3,hC,par,encL_cons,sOf,rw_fold])
    all_goals simp only [ByteArray.append_assoc,ByteArray.append_empty,ByteArray.empty_append]
  ·generalize par (wide ao) (Rw.mk ao an al).text = x at *
   generalize (Rw.mk bo bn bl).text = y at *
   simp only [sOf] at hte
   rw [hte] at hts ⊢
   cases m <;> simp [ir_syntax_text,k,hab,h1,h4,hC,par,encL_cons,sOf,rw_fold]
   all_goals repeat (refine kO_if (by simp only [size_app,sz0,sz1,sz2,sz3,sz4,sz5,sz6,sz7,sz8,sz9,sz10,sz11,sz12,LIM] <;> omega) ?_; simp [k,hab,h1,h4,hC,par,encL_cons,sOf,rw_fold])
  ·by_cases a3 : ao = 3
   ·subst a3
    simp [sOf] at hte
    generalize (Rw.mk bo bn bl).text = y at *
    rw [hte]
    cases m <;> simp [ir_syntax_text,k,hab,h4,hC,par,encL_cons,sOf,rw_fold]
    all_goals repeat (refine kO_if (by simp only [size_app,sz0,sz1,sz2,sz3,sz4,sz5,sz6,sz7,sz8,sz9,sz10,sz11,sz12,LIM] <;> omega) ?_; simp [k,hab,h4,hC,par,encL_cons,sOf,rw_fold])
    all_goals simp only [ByteArray.append_assoc,ByteArray.append_empty,ByteArray.empty_append]
   ·simp [a3,sOf] at hte
    generalize (Rw.mk bo bn bl).text = y at *
    generalize (Rw.mk ao an al).text = x at *
    rw [hte]
    cases m <;> simp [ir_syntax_text,k,hab,h3,h4,a3,hC,par,encL_cons,sOf,rw_fold]
    all_goals repeat (refine kO_if (by simp only [size_app,sz0,sz1,sz2,sz3,sz4,sz5,sz6,sz7,sz8,sz9,sz10,sz11,sz12,LIM] <;> omega) ?_; simp [k,hab,h3,h4,a3,hC,par,encL_cons,sOf,rw_fold])
    all_goals simp only [ByteArray.append_assoc,ByteArray.append_empty,ByteArray.empty_append]
theorem syntax_Text_spec (t : Rw) (h : t.ok) : runV TT HH [] n_syntax_Text [t.enc] [] = some (.ret (if t.well then .tup [.s t.text,.i 0] else .tup [.s ByteArray.empty,.i 2]),[]) := by
 rw [eq_syntax_Text]
 have h1 := RR_of (syntax_Check_spec t h) (by simp) (by simp)
 cases hw : t.well
 ·rw [hw] at h1; simp [ir_syntax_Text,h1,rw_fold']
 rw [hw] at h1
 simp only [Rw.well,Bool.and_eq_true,decide_eq_true_eq] at hw
 have h2 : ∀ bars σ,RR TT HH bars n_syntax_text [t.enc,.sl true []] σ = some (.ret (.s t.text),σ) := RR_of (syntax_text_spec t h 1 true [] hw.2 hw.1 (by simp)) (by simp) (by simp)
 simp [ir_syntax_Text,h1,h2,rw_fold']
 repeat' ((first | refine kG_split ?_ ?_ | refine kIf_split ?_ ?_ | refine bB_split ?_ ?_ | refine kO_split ?_ ?_ | refine kCl_split ?_ ?_) <;> intro h <;> (try simp only [decide_eq_true_eq,decide_eq_false_iff_not,Bool.not_eq_true] at h) <;> simp [h,ir_syntax_Text,h1,rw_fold'])
end Go.Ev


namespace Go.Ev
theorem sign_Find_spec (sig : List Dc) (s : ByteArray) (hl : sig.length ≤ maxLen) (hs : ∀ d ∈ sig,d.ok) (hok : sigOK sig = true) : runV TT HH [] n_sign_Find [.sl false (encL sig),.s s] [] = some (.ret (if dup sig s then .tup [.i (findI sig s 0),.i 0] else .tup [.i 0,.i 6]),[]) := by
 rw [eq_sign_Find]
 have hl' := ml hl
 have h1 := RR_of (sign_Check_spec sig hl hs) (by simp) (by simp)
 rw [hok] at h1
 have hlo := LO_list (T := TT) (H := HH) (b := [0]) (A := ir_sign_FindL0) sig
  (fun i (_ : Unit) => ([(1,.s s),(14,.sl false (encL sig)),(15,.i sig.length),(16,.i i)],[]))
  (fun r i _ => if dup r s then (.ret,[(4,.i (findI r s i)),(5,.i 0)],[]) else (.exit 0,[],[]))
  (fun _ _ => True)
  (fun _ _ => by
   rw [E_EK]
   simp [ir_sign_FindL0,dup])
  (fun i x r _ hx hm hd hi _ => by
   have e1 : (i : Int) < sig.length := by omega
   have hw : IntKind.i64.wrap ((i : Int) + 1) = (i : Int) + 1 := wrap_small _ (by omega) (by omega)
   by_cases h : x.name = s
   ·refine .inl ⟨?_,by simp [dup,h]⟩
    rw [E_EK]
    simp [ir_sign_FindL0,e1,hx,hw,h,dup,findI]
   ·refine .inr ⟨(),?_,trivial,by simp only [dup,List.any_cons,h,decide_false,Bool.false_or,findI,if_false]; push_cast; rfl⟩
    rw [E_EK]
    simp [ir_sign_FindL0,e1,hx,hw,h]) 0 () (by omega) trivial
 simp only [List.drop_zero] at hlo
 cases hd : dup sig s <;> simp [hd] at hlo <;> simp [ir_sign_Find,h1,hl',hlo]
def itoaT : List ByteArray := [⟨#[48]⟩,⟨#[49]⟩,⟨#[50]⟩,⟨#[51]⟩,⟨#[52]⟩,⟨#[53]⟩,⟨#[54]⟩,⟨#[55]⟩,⟨#[56]⟩,⟨#[57]⟩,⟨#[49,48]⟩,⟨#[49,49]⟩,⟨#[49,50]⟩,⟨#[49,51]⟩,⟨#[49,52]⟩,⟨#[49,53]⟩,⟨#[49,54]⟩,⟨#[49,55]⟩,⟨#[49,56]⟩,⟨#[49,57]⟩,⟨#[50,48]⟩,⟨#[50,49]⟩,⟨#[50,50]⟩,⟨#[50,51]⟩,⟨#[50,52]⟩,⟨#[50,53]⟩,⟨#[50,54]⟩,⟨#[50,55]⟩,⟨#[50,56]⟩,⟨#[50,57]⟩,⟨#[51,48]⟩,⟨#[51,49]⟩,⟨#[51,50]⟩,⟨#[51,51]⟩,⟨#[51,52]⟩,⟨#[51,53]⟩,⟨#[51,54]⟩,⟨#[51,55]⟩,⟨#[51,56]⟩,⟨#[51,57]⟩,⟨#[52,48]⟩,⟨#[52,49]⟩,⟨#[52,50]⟩,⟨#[52,51]⟩,⟨#[52,52]⟩,⟨#[52,53]⟩]
def itoaB (n : Int) : ByteArray := (itoaT[n.toNat]?).getD ByteArray.empty
theorem it0 : runV TT HH [] n_strconv_Itoa [.i 0] [] = some (.ret (.s ⟨#[48]⟩),[]) := runV_k (mem := []) trivial (k := 3000) (by kernel_rfl)
theorem it1 : runV TT HH [] n_strconv_Itoa [.i 1] [] = some (.ret (.s ⟨#[49]⟩),[]) := runV_k (mem := []) trivial (k := 3000) (by kernel_rfl)
theorem it2 : runV TT HH [] n_strconv_Itoa [.i 2] [] = some (.ret (.s ⟨#[50]⟩),[]) := runV_k (mem := []) trivial (k := 3000) (by kernel_rfl)
theorem it3 : runV TT HH [] n_strconv_Itoa [.i 3] [] = some (.ret (.s ⟨#[51]⟩),[]) := runV_k (mem := []) trivial (k := 3000) (by kernel_rfl)
theorem it4 : runV TT HH [] n_strconv_Itoa [.i 4] [] = some (.ret (.s ⟨#[52]⟩),[]) := runV_k (mem := []) trivial (k := 3000) (by kernel_rfl)
theorem it5 : runV TT HH [] n_strconv_Itoa [.i 5] [] = some (.ret (.s ⟨#[53]⟩),[]) := runV_k (mem := []) trivial (k := 3000) (by kernel_rfl)
theorem it6 : runV TT HH [] n_strconv_Itoa [.i 6] [] = some (.ret (.s ⟨#[54]⟩),[]) := runV_k (mem := []) trivial (k := 3000) (by kernel_rfl)
theorem it7 : runV TT HH [] n_strconv_Itoa [.i 7] [] = some (.ret (.s ⟨#[55]⟩),[]) := runV_k (mem := []) trivial (k := 3000) (by kernel_rfl)
theorem it8 : runV TT HH [] n_strconv_Itoa [.i 8] [] = some (.ret (.s ⟨#[56]⟩),[]) := runV_k (mem := []) trivial (k := 3000) (by kernel_rfl)
theorem it9 : runV TT HH [] n_strconv_Itoa [.i 9] [] = some (.ret (.s ⟨#[57]⟩),[]) := runV_k (mem := []) trivial (k := 3000) (by kernel_rfl)
theorem it10 : runV TT HH [] n_strconv_Itoa [.i 10] [] = some (.ret (.s ⟨#[49,48]⟩),[]) := runV_k (mem := []) trivial (k := 3000) (by kernel_rfl)
theorem it11 : runV TT HH [] n_strconv_Itoa [.i 11] [] = some (.ret (.s ⟨#[49,49]⟩),[]) := runV_k (mem := []) trivial (k := 3000) (by kernel_rfl)
theorem it12 : runV TT HH [] n_strconv_Itoa [.i 12] [] = some (.ret (.s ⟨#[49,50]⟩),[]) := runV_k (mem := []) trivial (k := 3000) (by kernel_rfl)
theorem it13 : runV TT HH [] n_strconv_Itoa [.i 13] [] = some (.ret (.s ⟨#[49,51]⟩),[]) := runV_k (mem := []) trivial (k := 3000) (by kernel_rfl)
theorem it14 : runV TT HH [] n_strconv_Itoa [.i 14] [] = some (.ret (.s ⟨#[49,52]⟩),[]) := runV_k (mem := []) trivial (k := 3000) (by kernel_rfl)
theorem it15 : runV TT HH [] n_strconv_Itoa [.i 15] [] = some (.ret (.s ⟨#[49,53]⟩),[]) := runV_k (mem := []) trivial (k := 3000) (by kernel_rfl)
theorem it16 : runV TT HH [] n_strconv_Itoa [.i 16] [] = some (.ret (.s ⟨#[49,54]⟩),[]) := runV_k (mem := []) trivial (k := 3000) (by kernel_rfl)
theorem it17 : runV TT HH [] n_strconv_Itoa [.i 17] [] = some (.ret (.s ⟨#[49,55]⟩),[]) := runV_k (mem := []) trivial (k := 3000) (by kernel_rfl)
theorem it18 : runV TT HH [] n_strconv_Itoa [.i 18] [] = some (.ret (.s ⟨#[49,56]⟩),[]) := runV_k (mem := []) trivial (k := 3000) (by kernel_rfl)
theorem it19 : runV TT HH [] n_strconv_Itoa [.i 19] [] = some (.ret (.s ⟨#[49,57]⟩),[]) := runV_k (mem := []) trivial (k := 3000) (by kernel_rfl)
theorem it20 : runV TT HH [] n_strconv_Itoa [.i 20] [] = some (.ret (.s ⟨#[50,48]⟩),[]) := runV_k (mem := []) trivial (k := 3000) (by kernel_rfl)
theorem it21 : runV TT HH [] n_strconv_Itoa [.i 21] [] = some (.ret (.s ⟨#[50,49]⟩),[]) := runV_k (mem := []) trivial (k := 3000) (by kernel_rfl)
theorem it22 : runV TT HH [] n_strconv_Itoa [.i 22] [] = some (.ret (.s ⟨#[50,50]⟩),[]) := runV_k (mem := []) trivial (k := 3000) (by kernel_rfl)
theorem it23 : runV TT HH [] n_strconv_Itoa [.i 23] [] = some (.ret (.s ⟨#[50,51]⟩),[]) := runV_k (mem := []) trivial (k := 3000) (by kernel_rfl)
theorem it24 : runV TT HH [] n_strconv_Itoa [.i 24] [] = some (.ret (.s ⟨#[50,52]⟩),[]) := runV_k (mem := []) trivial (k := 3000) (by kernel_rfl)
theorem it25 : runV TT HH [] n_strconv_Itoa [.i 25] [] = some (.ret (.s ⟨#[50,53]⟩),[]) := runV_k (mem := []) trivial (k := 3000) (by kernel_rfl)
theorem it26 : runV TT HH [] n_strconv_Itoa [.i 26] [] = some (.ret (.s ⟨#[50,54]⟩),[]) := runV_k (mem := []) trivial (k := 3000) (by kernel_rfl)
theorem it27 : runV TT HH [] n_strconv_Itoa [.i 27] [] = some (.ret (.s ⟨#[50,55]⟩),[]) := runV_k (mem := []) trivial (k := 3000) (by kernel_rfl)
theorem it28 : runV TT HH [] n_strconv_Itoa [.i 28] [] = some (.ret (.s ⟨#[50,56]⟩),[]) := runV_k (mem := []) trivial (k := 3000) (by kernel_rfl)
theorem it29 : runV TT HH [] n_strconv_Itoa [.i 29] [] = some (.ret (.s ⟨#[50,57]⟩),[]) := runV_k (mem := []) trivial (k := 3000) (by kernel_rfl)
theorem it30 : runV TT HH [] n_strconv_Itoa [.i 30] [] = some (.ret (.s ⟨#[51,48]⟩),[]) := runV_k (mem := []) trivial (k := 3000) (by kernel_rfl)
theorem it31 : runV TT HH [] n_strconv_Itoa [.i 31] [] = some (.ret (.s ⟨#[51,49]⟩),[]) := runV_k (mem := []) trivial (k := 3000) (by kernel_rfl)
theorem it32 : runV TT HH [] n_strconv_Itoa [.i 32] [] = some (.ret (.s ⟨#[51,50]⟩),[]) := runV_k (mem := []) trivial (k := 3000) (by kernel_rfl)
theorem it33 : runV TT HH [] n_strconv_Itoa [.i 33] [] = some (.ret (.s ⟨#[51,51]⟩),[]) := runV_k (mem := []) trivial (k := 3000) (by kernel_rfl)
theorem it34 : runV TT HH [] n_strconv_Itoa [.i 34] [] = some (.ret (.s ⟨#[51,52]⟩),[]) := runV_k (mem := []) trivial (k := 3000) (by kernel_rfl)
theorem it35 : runV TT HH [] n_strconv_Itoa [.i 35] [] = some (.ret (.s ⟨#[51,53]⟩),[]) := runV_k (mem := []) trivial (k := 3000) (by kernel_rfl)
theorem it36 : runV TT HH [] n_strconv_Itoa [.i 36] [] = some (.ret (.s ⟨#[51,54]⟩),[]) := runV_k (mem := []) trivial (k := 3000) (by kernel_rfl)
theorem it37 : runV TT HH [] n_strconv_Itoa [.i 37] [] = some (.ret (.s ⟨#[51,55]⟩),[]) := runV_k (mem := []) trivial (k := 3000) (by kernel_rfl)
theorem it38 : runV TT HH [] n_strconv_Itoa [.i 38] [] = some (.ret (.s ⟨#[51,56]⟩),[]) := runV_k (mem := []) trivial (k := 3000) (by kernel_rfl)
theorem it39 : runV TT HH [] n_strconv_Itoa [.i 39] [] = some (.ret (.s ⟨#[51,57]⟩),[]) := runV_k (mem := []) trivial (k := 3000) (by kernel_rfl)
theorem it40 : runV TT HH [] n_strconv_Itoa [.i 40] [] = some (.ret (.s ⟨#[52,48]⟩),[]) := runV_k (mem := []) trivial (k := 3000) (by kernel_rfl)
theorem it41 : runV TT HH [] n_strconv_Itoa [.i 41] [] = some (.ret (.s ⟨#[52,49]⟩),[]) := runV_k (mem := []) trivial (k := 3000) (by kernel_rfl)
theorem it42 : runV TT HH [] n_strconv_Itoa [.i 42] [] = some (.ret (.s ⟨#[52,50]⟩),[]) := runV_k (mem := []) trivial (k := 3000) (by kernel_rfl)
theorem it43 : runV TT HH [] n_strconv_Itoa [.i 43] [] = some (.ret (.s ⟨#[52,51]⟩),[]) := runV_k (mem := []) trivial (k := 3000) (by kernel_rfl)
theorem it44 : runV TT HH [] n_strconv_Itoa [.i 44] [] = some (.ret (.s ⟨#[52,52]⟩),[]) := runV_k (mem := []) trivial (k := 3000) (by kernel_rfl)
theorem it45 : runV TT HH [] n_strconv_Itoa [.i 45] [] = some (.ret (.s ⟨#[52,53]⟩),[]) := runV_k (mem := []) trivial (k := 3000) (by kernel_rfl)
theorem itoa_spec (n : Int) (h0 : 0 ≤ n) (h1 : n ≤ 45) : runV TT HH [] n_strconv_Itoa [.i n] [] = some (.ret (.s (itoaB n)),[]) ∧ (itoaB n).size ≤ 2 := by
 have h : n = 0 ∨ n = 1 ∨ n = 2 ∨ n = 3 ∨ n = 4 ∨ n = 5 ∨ n = 6 ∨ n = 7 ∨ n = 8 ∨ n = 9 ∨ n = 10 ∨ n = 11 ∨ n = 12 ∨ n = 13 ∨ n = 14 ∨ n = 15 ∨ n = 16 ∨ n = 17 ∨ n = 18 ∨ n = 19 ∨ n = 20 ∨ n = 21 ∨ n = 22 ∨ n = 23 ∨ n = 24 ∨ n = 25 ∨ n = 26 ∨ n = 27 ∨ n = 28 ∨ n = 29 ∨ n = 30 ∨ n = 31 ∨ n = 32 ∨ n = 33 ∨ n = 34 ∨ n = 35 ∨ n = 36 ∨ n = 37 ∨ n = 38 ∨ n = 39 ∨ n = 40 ∨ n = 41 ∨ n = 42 ∨ n = 43 ∨ n = 44 ∨ n = 45 := by omega
 rcases h with rfl | rfl | rfl | rfl | rfl | rfl | rfl | rfl | rfl | rfl | rfl | rfl | rfl | rfl | rfl | rfl | rfl | rfl | rfl | rfl | rfl | rfl | rfl | rfl | rfl | rfl | rfl | rfl | rfl | rfl | rfl | rfl | rfl | rfl | rfl | rfl | rfl | rfl | rfl | rfl | rfl | rfl | rfl | rfl | rfl | rfl
 ·exact ⟨it0,by decide⟩
 ·exact ⟨it1,by decide⟩
 ·exact ⟨it2,by decide⟩
 ·exact ⟨it3,by decide⟩
 ·exact ⟨it4,by decide⟩
 ·exact ⟨it5,by decide⟩
 ·exact ⟨it6,by decide⟩
 ·exact ⟨it7,by decide⟩
 ·exact ⟨it8,by decide⟩
 ·exact ⟨it9,by decide⟩
 ·exact ⟨it10,by decide⟩
 ·exact ⟨it11,by decide⟩
 ·exact ⟨it12,by decide⟩
 ·exact ⟨it13,by decide⟩
 ·exact ⟨it14,by decide⟩
 ·exact ⟨it15,by decide⟩
 ·exact ⟨it16,by decide⟩
 ·exact ⟨it17,by decide⟩
 ·exact ⟨it18,by decide⟩
 ·exact ⟨it19,by decide⟩
 ·exact ⟨it20,by decide⟩
 ·exact ⟨it21,by decide⟩
 ·exact ⟨it22,by decide⟩
 ·exact ⟨it23,by decide⟩
 ·exact ⟨it24,by decide⟩
 ·exact ⟨it25,by decide⟩
 ·exact ⟨it26,by decide⟩
 ·exact ⟨it27,by decide⟩
 ·exact ⟨it28,by decide⟩
 ·exact ⟨it29,by decide⟩
 ·exact ⟨it30,by decide⟩
 ·exact ⟨it31,by decide⟩
 ·exact ⟨it32,by decide⟩
 ·exact ⟨it33,by decide⟩
 ·exact ⟨it34,by decide⟩
 ·exact ⟨it35,by decide⟩
 ·exact ⟨it36,by decide⟩
 ·exact ⟨it37,by decide⟩
 ·exact ⟨it38,by decide⟩
 ·exact ⟨it39,by decide⟩
 ·exact ⟨it40,by decide⟩
 ·exact ⟨it41,by decide⟩
 ·exact ⟨it42,by decide⟩
 ·exact ⟨it43,by decide⟩
 ·exact ⟨it44,by decide⟩
 ·exact ⟨it45,by decide⟩
def vn (sig : List Dc) (n : Int) : ByteArray := pNm 20 sig (⟨#[120]⟩ ++ itoaB (n + 1))
def PP (sig : List Dc) : List PV := [.sl false (encL sig),.sl false [],.i 0]
theorem sz120 : (⟨#[120]⟩ : ByteArray).size = 1 := rfl
theorem sz39 : (⟨#[39]⟩ : ByteArray).size = 1 := rfl
theorem pNm_succ (k : Nat) (sig : List Dc) (s : ByteArray) : pNm (k + 1) sig s = if dup sig s then pNm k sig (s ++ ⟨#[39]⟩) else s := rfl
theorem name_loop (sig : List Dc) (hl : sig.length ≤ maxLen) (hs : ∀ d ∈ sig,d.ok) (hok : sigOK sig = true) (p : Nat) (σ : Sto) (hp : σ[p]? = some (.var (PP sig))) (bars : List Nat) : ∀ (k : Nat) (s : ByteArray),17 ≤ s.size + k → s.size ≤ 30 →
  LO TT HH bars ir_print_printer_nameL0 ([(0,.ptr p 0),(5,.s s)],σ) = some (.ret,[(4,.s (pNm k sig s))],σ) := by
 intro k
 have hpl := lt_of_get hp
 have hp' : σ[p] = .var (PP sig) := (List.getElem?_eq_some_iff.1 hp).2
 induction k with
 | zero =>
  intro s h1 h2
  have hc := RR_of (sign_Find_spec sig s hl hs hok) (by simp) (by simp)
  have hd : dup sig s = false := no_name hok (by omega)
  rw [hd] at hc
  rw [LO_eq,E_EK]
  have htk : σ.take σ.length = σ := List.take_length
  simp [ir_print_printer_nameL0,hp,hp',hpl,PP,hc,htk,pNm]
 | succ k ih =>
  intro s h1 h2
  have hc := RR_of (sign_Find_spec sig s hl hs hok) (by simp) (by simp)
  have htk : σ.take σ.length = σ := List.take_length
  cases hd : dup sig s with
  | true =>
   rw [hd] at hc
   by_cases h17 : 17 ≤ s.size
   ·have := no_name hok h17
    unfold dup at hd
    rw [this] at hd; cases hd
   have hth := ih (s ++ ⟨#[39]⟩) (by simp only [size_app,sz39]; omega) (by simp only [size_app,sz39]; omega)
   rw [LO_eq,E_EK,pNm_succ,hd]
   generalize LO TT HH bars ir_print_printer_nameL0 = F at hth ⊢
   have hz : s.size + (⟨#[39]⟩ : ByteArray).size ≤ LIM := by rw [sz39]; unfold LIM; omega
   simp [ir_print_printer_nameL0,hp,hp',hpl,PP,hc,htk,hz,hth]
  | false =>
   rw [hd] at hc
   rw [LO_eq,E_EK,pNm_succ,hd]
   simp [ir_print_printer_nameL0,hp,hp',hpl,PP,hc,htk]
theorem print_printer_name_spec (sig : List Dc) (hl : sig.length ≤ maxLen) (hs : ∀ d ∈ sig,d.ok) (hok : sigOK sig = true) (p : Nat) (σ : Sto) (hp : σ[p]? = some (.var (PP sig))) (bars : List Nat) (n : Int) (h0 : 0 ≤ n) (h1 : n ≤ 42) :
  runV TT HH bars n_print_printer_name [.ptr p 0,.i n] σ = some (.ret (.s (vn sig n)),σ) := by
 rw [eq_print_printer_name]
 have hpl := lt_of_get hp
 have hp' : σ[p] = .var (PP sig) := (List.getElem?_eq_some_iff.1 hp).2
 obtain ⟨hi,hz⟩ := itoa_spec (n + 1) (by omega) (by omega)
 have hi := RR_of hi (by simp) (by simp)
 have hw : IntKind.i64.wrap (n + 1) = n + 1 := wrap_small _ (by omega) (by omega)
 have hsz : (⟨#[120]⟩ : ByteArray).size + (itoaB (n + 1)).size ≤ LIM := by rw [sz120]; unfold LIM; omega
 have hlo := name_loop sig hl hs hok p σ hp (σ.length :: bars) 20 (⟨#[120]⟩ ++ itoaB (n + 1)) (by omega) (by simp only [size_app,sz120]; omega)
 have htk : σ.take σ.length = σ := List.take_length
 have hn : ¬ n < 0 := by omega
 simp [ir_print_printer_name,hp,hp',hpl,PP,hi,hw,hsz,hlo,htk,vn,hn]
def RP (sig : List Dc) : PV := .agg [.sl false (encL sig),.sl false [],.sl false []]
theorem variable_loop (sig : List Dc) (hl : sig.length ≤ maxLen) (hs : ∀ d ∈ sig,d.ok) (hok : sigOK sig = true) : ∀ (k : Nat) (s : ByteArray),17 ≤ s.size + k → s.size ≤ 30 →
  LO TT HH [0] ir_ref07_Printer_variableL0 ([(2,.ptr 0 0),(5,.s s)],[.var [.sl false (encL sig),.sl false [],.sl false []]]) = some (.exit 0,[(5,.s (pNm k sig s))],[.var [.sl false (encL sig),.sl false [],.sl false []]]) := by
 intro k
 have hl' := ml hl
 induction k with
 | zero =>
  intro s h1 h2
  have hc := RR_of (ref05_Find_spec sig s hl') (by simp) (by simp)
  have hd : dup sig s = false := no_name hok (by omega)
  have hf := findI_dup sig s 0 (by omega)
  rw [hd] at hf
  rw [LO_eq,E_EK]
  simp [ir_ref07_Printer_variableL0,hc,hf,pNm]
 | succ k ih =>
  intro s h1 h2
  have hc := RR_of (ref05_Find_spec sig s hl') (by simp) (by simp)
  have hf := findI_dup sig s 0 (by omega)
  cases hd : dup sig s with
  | true =>
   rw [hd] at hf
   by_cases h17 : 17 ≤ s.size
   ·have := no_name hok h17
    unfold dup at hd
    rw [this] at hd; cases hd
   have hth := ih (s ++ ⟨#[39]⟩) (by simp only [size_app,sz39]; omega) (by simp only [size_app,sz39]; omega)
   rw [LO_eq,E_EK,pNm_succ,hd]
   generalize LO TT HH [0] ir_ref07_Printer_variableL0 = F at hth ⊢
   have hz : s.size + (⟨#[39]⟩ : ByteArray).size ≤ LIM := by rw [sz39]; unfold LIM; omega
   simp [ir_ref07_Printer_variableL0,hc,hf,hz,hth]
  | false =>
   rw [hd] at hf
   rw [LO_eq,E_EK,pNm_succ,hd]
   simp [ir_ref07_Printer_variableL0,hc,hf]
theorem ref07_Printer_variable_spec (sig : List Dc) (hl : sig.length ≤ maxLen) (hs : ∀ d ∈ sig,d.ok) (hok : sigOK sig = true) (n : Int) (h0 : 0 ≤ n) (h1 : n ≤ 42) : runV TT HH [] n_ref07_Printer_variable [RP sig,.i n] [] = some (.ret (.s (vn sig n)),[]) := by
 rw [eq_ref07_Printer_variable]
 obtain ⟨hi,hz⟩ := itoa_spec (n + 1) (by omega) (by omega)
 have hi := RR_of hi (by simp) (by simp)
 have hw : IntKind.i64.wrap (n + 1) = n + 1 := wrap_small _ (by omega) (by omega)
 have hsz : (⟨#[120]⟩ : ByteArray).size + (itoaB (n + 1)).size ≤ LIM := by rw [sz120]; unfold LIM; omega
 have hlo := variable_loop sig hl hs hok 20 (⟨#[120]⟩ ++ itoaB (n + 1)) (by omega) (by simp only [size_app,sz120]; omega)
 have hn : ¬ n < 0 := by omega
 simp [ir_ref07_Printer_variable,RP,hi,hw,hsz,hlo,vn,hn]
end Go.Ev


namespace Go.Ev
def hN (sig : List Dc) (t : Tm) (m : Int) : ByteArray := if t.hd = 1 ∧ t.n < m then vn sig (m - 1 - t.n) else if t.hd = 2 then (match sig[t.n.toNat]? with | some d => if (t.args.length : Int) < d.imp then ByteArray.empty else d.name | none => ByteArray.empty) else ByteArray.empty
def hI (sig : List Dc) (t : Tm) (m : Int) : Int := if t.hd = 2 then (match sig[t.n.toNat]? with | some d => if (t.args.length : Int) < d.imp then 0 else d.imp | none => 0) else 0
def hE (sig : List Dc) (t : Tm) (m : Int) : Int := if t.hd = 1 ∧ t.n < m then 0 else if t.hd = 2 then (match sig[t.n.toNat]? with | some d => if (t.args.length : Int) < d.imp then 23 else 0 | none => 27) else 27
theorem print_printer_head_spec (sig : List Dc) (hl : sig.length ≤ maxLen) (hs : ∀ d ∈ sig,d.ok) (hok : sigOK sig = true) (p : Nat) (σ : Sto) (hp : σ[p]? = some (.var (PP sig))) (bars : List Nat) (t : Tm) (ht : t.ok) (m : Int) (h0 : 0 ≤ m) (h1 : m ≤ 42) (hn : 0 ≤ t.n) :
  runV TT HH bars n_print_printer_head [.ptr p 0,t.enc,.i m] σ = some (.ret (.tup [.s (hN sig t m),.i (hI sig t m),.i (hE sig t m)]),σ) := by
 rw [eq_print_printer_head]
 have hpl := lt_of_get hp
 have hpl1 : p < σ.length + 1 := by omega
 have e3 := ml ht.len
 have hl' := ml hl
 have hnm : ∀ (bars : List Nat) (ext : Sto) (n : Int),0 ≤ n → n ≤ 42 → RR TT HH bars n_print_printer_name [.ptr p 0,.i n] (σ ++ ext) = some (.ret (.s (vn sig n)),σ ++ ext) := fun bars ext n a b => by
  rw [RR_open (by simp) (by simp),print_printer_name_spec sig hl hs hok p (σ ++ ext) (by rw [app_old _ hpl]; exact hp) bars n a b]
 have ht : ∀ l : Sto,(σ ++ l).take σ.length = σ := fun l => List.take_left
 unfold hN hI hE
 unfold PP at hp
 by_cases a1 : t.hd = 1
 ·by_cases a2 : t.n < m
  ·have hw : IntKind.i64.wrap (m - 1) = m - 1 := wrap_small _ (by omega) (by omega)
   have hw2 : IntKind.i64.wrap (m - 1 - t.n) = m - 1 - t.n := wrap_small _ (by omega) (by omega)
   have hnm := fun bars ext => hnm bars ext (m - 1 - t.n) (by omega) (by omega)
   simp [ir_print_printer_head,a1,a2,hp,hpl,hpl1,hw,hw2,hnm,ht,-getElem?_pos,List.getElem?_cons_zero,List.getElem?_cons_succ,List.getElem?_nil,app_old,app_ge,set_old,set_ge,set_at,take_app,take_app1,take_set,take_set1]
  ·simp [ir_print_printer_head,a1,a2,hp,hpl,hpl1,ht,-getElem?_pos,List.getElem?_cons_zero,List.getElem?_cons_succ,List.getElem?_nil,app_old,app_ge,set_old,set_ge,set_at,take_app,take_app1,take_set,take_set1]
 ·by_cases a2 : t.hd = 2
  ·by_cases a3 : t.n < sig.length
   ·obtain ⟨d,hd,-,-⟩ := get_some (l := sig) (i := t.n.toNat) (by omega)
    by_cases a4 : (t.args.length : Int) < d.imp
    ·simp [ir_print_printer_head,a2,a3,a4,hd,hn,hp,hpl,hpl1,hl',e3,ht,-getElem?_pos,List.getElem?_cons_zero,List.getElem?_cons_succ,List.getElem?_nil,app_old,app_ge,set_old,set_ge,set_at,take_app,take_app1,take_set,take_set1]
    ·simp [ir_print_printer_head,a2,a3,a4,hd,hn,hp,hpl,hpl1,hl',e3,ht,-getElem?_pos,List.getElem?_cons_zero,List.getElem?_cons_succ,List.getElem?_nil,app_old,app_ge,set_old,set_ge,set_at,take_app,take_app1,take_set,take_set1]
   ·have hd : sig[t.n.toNat]? = none := List.getElem?_eq_none (by omega)
    simp [ir_print_printer_head,a2,a3,hd,hn,hp,hpl,hpl1,hl',e3,ht,-getElem?_pos,List.getElem?_cons_zero,List.getElem?_cons_succ,List.getElem?_nil,app_old,app_ge,set_old,set_ge,set_at,take_app,take_app1,take_set,take_set1]
  ·by_cases a3 : t.hd = 3
   ·have a4 : ¬ t.n < 0 := by omega
    simp [ir_print_printer_head,a3,a4,hp,hpl,hpl1,ht,-getElem?_pos,List.getElem?_cons_zero,List.getElem?_cons_succ,List.getElem?_nil,app_old,app_ge,set_old,set_ge,set_at,take_app,take_app1,take_set,take_set1]
   ·simp [ir_print_printer_head,a1,a2,a3,hp,hpl,hpl1,ht,-getElem?_pos,List.getElem?_cons_zero,List.getElem?_cons_succ,List.getElem?_nil,app_old,app_ge,set_old,set_ge,set_at,take_app,take_app1,take_set,take_set1]
end Go.Ev


namespace Go.Ev
def wstep (sig : List Dc) (w : Int) (x : Tm × Int) : Int := if x.1.op = 4 ∧ w ≠ 27 then (if hE sig x.1 x.2 = 0 then w else hE sig x.1 x.2) else w
def SS (a0 a1 : Ob) (sig : List Dc) (t : Tm) (w : Int) : Sto := [a0,a1,.var (PP sig),.var [.ptr 2 0],.var (Enc.cells t),.var [.i 0],.var [.i w]]
theorem print_printer_scoped_1_spec (sig : List Dc) (hl : sig.length ≤ maxLen) (hs : ∀ d ∈ sig,d.ok) (hok : sigOK sig = true) (a0 a1 : Ob) (t x : Tm) (hx : x.ok) (k : Int) (w : Int) (bars : List Nat) (ext : Sto) (h0 : 0 ≤ k) (h1 : k ≤ 42) (hn : x.op = 4 → 0 ≤ x.n) :
  RR TT HH bars n_print_printer_scoped_1 [x.enc,.i k,.ptr 6 0,.ptr 3 0,.ptr 5 0] (SS a0 a1 sig t w ++ ext) = some (.ret (.tup []),SS a0 a1 sig t (wstep sig w (x,k)) ++ ext) := by
 rw [RR_open (by simp) (by simp),eq_print_printer_scoped_1]
 have hw : IntKind.i64.wrap k = k := wrap_small _ (by omega) (by omega)
 unfold wstep
 by_cases a : x.op = 4
 ·have hh : ∀ bars,RR TT HH bars n_print_printer_head [.ptr 2 0,x.enc,.i k] (SS a0 a1 sig t w ++ (ext ++ [.var (Enc.cells x)])) = some (.ret (.tup [.s (hN sig x k),.i (hI sig x k),.i (hE sig x k)]),SS a0 a1 sig t w ++ (ext ++ [.var (Enc.cells x)])) := fun bars => by
   rw [RR_open (by simp) (by simp),print_printer_head_spec sig hl hs hok 2 _ rfl bars x hx k h0 h1 (hn a)]
  obtain ⟨op,hd,n,args⟩ := x
  simp only [Tm.op_mk] at a
  subst a
  simp [SS] at hh
  by_cases b : w = 27
  ·simp [ir_print_printer_scoped_1,SS,b]
  ·generalize hE sig (Tm.mk 4 hd n args) k = e at *
   by_cases c : e = 0
   ·simp [ir_print_printer_scoped_1,SS,b,hw,hh,c,tm_fold]
   ·simp [ir_print_printer_scoped_1,SS,b,hw,hh,c,tm_fold]
 ·simp [ir_print_printer_scoped_1,SS,a]
def worst (sig : List Dc) (t : Tm) : Int := (t.nds 0).foldl (wstep sig) 0
mutual
theorem nds_ok : ∀ (t : Tm) (b : Int),t.ok → ∀ x ∈ t.nds b,x.1.ok
 | .mk op hd n args,b,h,x,hx => by
  rw [Tm.nds] at hx
  rcases List.mem_cons.1 hx with rfl | hx
  ·exact h
  ·exact ndsL_ok args op 0 b h.sub x hx
theorem ndsL_ok : ∀ (l : List Tm) (op i b : Int),(∀ x ∈ l,x.ok) → ∀ x ∈ Tm.ndsL op l i b,x.1.ok
 | [],_,_,_,_,x,hx => by cases hx
 | t :: r,op,i,b,h,x,hx => by
  rw [Tm.ndsL] at hx
  rcases List.mem_append.1 hx with hx | hx
  ·exact nds_ok t _ (h t (by simp)) x hx
  ·exact ndsL_ok r op (i + 1) b (fun y hy => h y (by simp [hy])) x hx
end
theorem print_printer_scoped_spec (sig : List Dc) (hl : sig.length ≤ maxLen) (hs : ∀ d ∈ sig,d.ok) (hok : sigOK sig = true) (a0 a1 : Ob) (t : Tm) (ht : t.ok) (hp : t.proper = true) (bars : List Nat) :
  RR TT HH bars n_print_printer_scoped [.ptr 2 0,t.enc,.i 0] [a0,a1,.var (PP sig)] = some (.ret (.i (worst sig t)),[a0,a1,.var (PP sig)]) := by
 rw [RR_open (by simp) (by simp),eq_print_printer_scoped]
 have hf := proper_formed hp
 have h1 : ∀ bars,RR TT HH bars n_term_Each [t.enc,.i 0,.fn (.func n_print_printer_scoped_1) [.ptr 6 0,.ptr 3 0,.ptr 5 0]] (SS a0 a1 sig t 0) = some (.ret (.tup []),SS a0 a1 sig t (worst sig t)) := fun bars => by
  rw [RR_open (by simp) (by simp)]
  have := term_Each_spec n_print_printer_scoped_1 [.ptr 6 0,.ptr 3 0,.ptr 5 0] (by simp) (by simp) (SS a0 a1 sig t) (wstep sig) 7 (fun _ => rfl) (fun n hn => by simp; omega) (fun y => y.1.ok ∧ (0 ≤ y.2 ∧ y.2 ≤ 42) ∧ (y.1.op = 4 → 0 ≤ y.1.n))
   (fun x k s bars ext hg => print_printer_scoped_1_spec sig hl hs hok a0 a1 t x hg.1 k s bars ext hg.2.1.1 hg.2.1.2 hg.2.2) t ht 0 1 0 bars [] hf (by omega) (by omega) (fun y hy => by
    have := formed_nd hf (by omega) hy
    exact ⟨nds_ok t 0 ht y hy,⟨this.2.1,by omega⟩,fun h4 => (shape4 this.1 h4).2.2.1⟩)
  simpa [worst] using this
 simp [SS] at h1
 simp [ir_print_printer_scoped,h1,tm_fold',barsOk]
def scN (sig : List Dc) (x : Tm × Int) : Bool := !decide (x.1.op = 4) || (decide (x.1.hd = 1) && decide (x.1.n < x.2)) || (decide (x.1.hd = 2) && decide (x.1.n < sig.length))
def fuN (sig : List Dc) (x : Tm × Int) : Bool := !(decide (x.1.op = 4) && decide (x.1.hd = 2)) || (match sig[x.1.n.toNat]? with | some d => decide (d.imp ≤ x.1.args.length) | none => false)
theorem wfold (sig : List Dc) (ns : List (Tm × Int)) (hn : ∀ x ∈ ns,x.1.op = 4 → 0 ≤ x.1.n) : ∀ w : Int,w = 0 ∨ w = 23 ∨ w = 27 → ns.foldl (wstep sig) w = if w = 27 ∨ ns.all (scN sig) = false then 27 else if w = 23 ∨ ns.all (fuN sig) = false then 23 else 0 := by
 induction ns with
 | nil => intro w hw; rcases hw with rfl | rfl | rfl <;> simp
 | cons a r ih =>
  intro w hw
  have ih := ih (fun x hx => hn x (by simp [hx]))
  have hna := hn a (by simp)
  rw [List.foldl_cons]
  have hst : wstep sig w a = if w = 27 ∨ scN sig a = false then 27 else if w = 23 ∨ fuN sig a = false then 23 else 0 := by
   unfold wstep scN fuN hE
   by_cases a1 : a.1.op = 4
   ·have hna := hna a1
    by_cases b : w = 27
    ·simp [b]
    ·by_cases c1 : a.1.hd = 1
     ·by_cases c2 : a.1.n < a.2
      ·rcases hw with rfl | rfl | rfl <;> simp [a1,c1,c2] at b ⊢
      ·rcases hw with rfl | rfl | rfl <;> simp [a1,c1,c2] at b ⊢
     ·by_cases c2 : a.1.hd = 2
      ·by_cases c3 : a.1.n < sig.length
       ·obtain ⟨d,hd,-,-⟩ := get_some (l := sig) (i := a.1.n.toNat) (by omega)
        by_cases c4 : (a.1.args.length : Int) < d.imp
        ·have c5 : ¬ d.imp ≤ a.1.args.length := by omega
         rcases hw with rfl | rfl | rfl <;> simp [a1,c2,c3,c4,c5,hd] at b ⊢
        ·have c5 : d.imp ≤ a.1.args.length := by omega
         rcases hw with rfl | rfl | rfl <;> simp [a1,c2,c3,c4,c5,hd] at b ⊢
       ·have hd : sig[a.1.n.toNat]? = none := List.getElem?_eq_none (by omega)
        rcases hw with rfl | rfl | rfl <;> simp [a1,c2,c3,hd] at b ⊢
      ·rcases hw with rfl | rfl | rfl <;> simp [a1,c1,c2] at b ⊢
   ·rcases hw with rfl | rfl | rfl <;> simp [a1]
  rw [hst,ih]
  ·rw [List.all_cons,List.all_cons]
   generalize scN sig a = A
   generalize fuN sig a = B
   generalize r.all (scN sig) = C
   generalize r.all (fuN sig) = D
   cases A <;> cases B <;> cases C <;> cases D <;> rcases hw with rfl | rfl | rfl <;> rfl
  ·split
   ·simp
   ·split <;> simp
end Go.Ev


namespace Go.Ev
theorem print_node_spec (op : Int) (nm : ByteArray) (tt : Bool) (l : List Rw) : runV TT HH [] n_print_node [.i op,.s nm,.sl tt (encL l)] [] = some (.ret (Rw.mk op nm l).enc,[]) := by
 rw [eq_print_node]
 simp [ir_print_node,rw_fold]
theorem node0 (op : Int) (nm : ByteArray) (tt : Bool) (bars : List Nat) (σ : Sto) : RR TT HH bars n_print_node [.i op,.s nm,.sl tt []] σ = some (.ret (Rw.mk op nm []).enc,σ) :=
 RR_of (print_node_spec op nm tt []) (by simp) (by simp) bars σ
theorem node2 (op : Int) (nm : ByteArray) (tt : Bool) (x y : Rw) (bars : List Nat) (σ : Sto) : RR TT HH bars n_print_node [.i op,.s nm,.sl tt [[.i x.op,.s x.name,.sl false (encL x.args)],[.i y.op,.s y.name,.sl false (encL y.args)]]] σ = some (.ret (Rw.mk op nm [x,y]).enc,σ) := by
 have := RR_of (print_node_spec op nm tt [x,y]) (by simp) (by simp) bars σ
 simpa [encL_cons] using this
theorem node2h (op : Int) (nm : ByteArray) (tt : Bool) (y : Rw) (bars : List Nat) (σ : Sto) : RR TT HH bars n_print_node [.i op,.s nm,.sl tt [[.i 3,.s ByteArray.empty,.sl false []],[.i y.op,.s y.name,.sl false (encL y.args)]]] σ = some (.ret (Rw.mk op nm [.mk 3 ByteArray.empty [],y]).enc,σ) :=
 node2 op nm tt (.mk 3 ByteArray.empty []) y bars σ
theorem print_fold_spec (g : FuncId) (cap : List PV) (hg : g < YB) (hc : below.belowAll 0 cap = false) (step : Rw → Tm → Rw) (σ : Sto) (hcb : ∀ n,σ.length ≤ n → below.belowAll n cap = true) (l : List Tm) (hl : l.length < 2 ^ 63)
  (hv : ∀ (f : Rw) (x : Tm) (bars : List Nat) (ext : Sto),x ∈ l → (∀ b ∈ bars,b ≤ (σ ++ ext).length) → RR TT HH bars g (f.enc :: x.enc :: cap) (σ ++ ext) = some (.ret (.tup [(step f x).enc,.i 0]),σ ++ ext)) (f0 : Rw) (bars : List Nat) (hb : ∀ b ∈ bars,b ≤ σ.length) :
  RR TT HH bars n_print_fold_api_Term_api_Raw [f0.enc,.sl false (encL l),.fn (.func g) cap] σ = some (.ret (.tup [(l.foldl step f0).enc,.i 0]),σ) := by
 rw [RR_open (by simp [hc]) (by simp [hc]),eq_print_fold_api_Term_api_Raw]
 generalize hL : σ.length = L at *
 have tk : ∀ l : Sto,(σ ++ l).take L = σ := fun l => List.take_left' hL
 have tk2 : ∀ (a b : Ob) (l : Sto),(σ ++ a :: b :: l).take (L + 2) = σ ++ [a,b] := fun a b l => by
  rw [show σ ++ a :: b :: l = (σ ++ [a,b]) ++ l by simp]; exact List.take_left' (by simp [hL])
 have hlo := LO_list (T := TT) (H := HH) (b := L :: bars) (A := ir_print_fold_api_Term_api_RawL0) l
  (fun i (f : Rw) => ([(2,.fn (.func g) cap),(3,.ptr L 0),(6,.ptr (L + 1) 0),(12,.sl false (encL l)),(13,.i l.length),(14,.i i)],σ ++ [.var [.i f.op,.s f.name,.sl false (encL f.args)],.var [.i 0,.s ByteArray.empty,.sl true []]]))
  (fun r i f => (.exit 0,[(3,.ptr L 0),(6,.ptr (L + 1) 0)],σ ++ [.var [.i (r.foldl step f).op,.s (r.foldl step f).name,.sl false (encL (r.foldl step f).args)],.var [.i 0,.s ByteArray.empty,.sl true []]]))
  (fun _ _ => True)
  (fun f _ => by
   rw [E_EK]
   simp [ir_print_fold_api_Term_api_RawL0,hL,tk2,hcb])
  (fun i x r f hx hm hd hi _ => by
   have e1 : (i : Int) < l.length := by omega
   have hw : IntKind.i64.wrap ((i : Int) + 1) = (i : Int) + 1 := wrap_small _ (by omega) (by omega)
   refine .inr ⟨step f x,?_,trivial,rfl⟩
   have hc1 : ∀ a b c,RR TT HH ((L + 2) :: L :: bars) g (f.enc :: x.enc :: cap) (σ ++ [a,b,c]) = some (.ret (.tup [(step f x).enc,.i 0]),σ ++ [a,b,c]) := fun a b c => hv f x _ _ hm (fun y hy => by
    simp only [List.length_append,hL,List.length_cons,List.length_nil]
    simp only [List.mem_cons] at hy
    rcases hy with rfl | rfl | hy
    ·omega
    ·omega
    ·have := hb y hy; omega)
   rw [E_EK]
   simp [ir_print_fold_api_Term_api_RawL0,e1,hx,hw,hg,hc1,hL,tk2,hcb,tm_fold',rw_fold',-getElem?_pos,List.getElem?_cons_zero,List.getElem?_cons_succ,List.getElem?_nil,app_old,app_ge,set_old,set_ge,set_at,take_app,take_app1,take_set,take_set1]) 0 f0 (by omega) trivial
 simp at hlo
 simp [ir_print_fold_api_Term_api_Raw,hL,hl,hlo,tk,rw_fold',-getElem?_pos,List.getElem?_cons_zero,List.getElem?_cons_succ,List.getElem?_nil,app_old,app_ge,set_old,set_ge,set_at,take_app,take_app1,take_set,take_set1]
end Go.Ev


namespace Go.Ev
def imps (sig : List Dc) : List Int := sig.map (·.imp)
theorem head_ok {sig : List Dc} (hok : sigOK sig = true) {t : Tm} {m : Int} (h : okN (imps sig) m (t,0) = true) (h4 : t.op = 4) (hn : 0 ≤ t.n) :
  hE sig t m = 0 ∧ hN sig t m = hName sig (vn sig) t m ∧ hI sig t m = impOf sig t ∧ 0 ≤ impOf sig t ∧ impOf sig t ≤ t.args.length ∧ (t.hd = 1 ∧ t.n < m ∨ t.hd = 2 ∧ t.n < sig.length) := by
 unfold okN at h
 simp only [h4,decide_true,Bool.not_true,Bool.false_or,Bool.or_eq_true,Bool.and_eq_true,decide_eq_true_eq,Int.zero_add] at h
 rcases h with ⟨a,b⟩ | ⟨a,b⟩
 ·simp [hE,hN,hI,hName,impOf,a,b]
 ·unfold imps at b
  rw [List.getElem?_map] at b
  cases hd : sig[t.n.toNat]? with
  | none => rw [hd] at b; simp at b
  | some d =>
   rw [hd] at b
   have b : d.imp ≤ t.args.length := by simpa using b
   have hlt := (List.getElem?_eq_some_iff.1 hd).1
   have hm : d ∈ sig := List.mem_of_getElem? hd
   have := (sigOK_mem hok hm).2.2
   have b' : ¬ (t.args.length : Int) < d.imp := by omega
   simp [hE,hN,hI,hName,impOf,a,hd,b',this,b]
   omega
theorem okN_sub {sig : List Int} {t x : Tm} {m : Int} {i : Nat} (h : (t.nds 0).all (okN sig m) = true) (hx : t.args[i]? = some x) : (x.nds 0).all (okN sig (m + und t.op i)) = true := by
 rw [nds_eq,List.all_cons,Bool.and_eq_true] at h
 have key : ∀ (l : List Tm) (op j : Int) (i : Nat),(Tm.ndsL op l j 0).all (okN sig m) = true → l[i]? = some x → (x.nds (0 + und op (j + i))).all (okN sig m) = true := by
  intro l
  induction l with
  | nil => intro op j i h hx; simp at hx
  | cons a r ih =>
   intro op j i h hx
   rw [Tm.ndsL,List.all_append,Bool.and_eq_true] at h
   cases i with
   | zero =>
    simp only [List.getElem?_cons_zero,Option.some.injEq] at hx
    subst hx
    simpa using h.1
   | succ i =>
    rw [List.getElem?_cons_succ] at hx
    have := ih op (j + 1) i h.2 hx
    rw [show j + ((i + 1 : Nat) : Int) = j + 1 + i by push_cast; omega]
    exact this
 have h2 := key t.args t.op 0 i h.2 hx
 rw [nds_add,List.all_map,Int.zero_add] at h2
 rw [← h2]
 congr 1
 funext y
 exact (okN_add sig m (und t.op i) y).symm
structure RC (sig : List Dc) (k : Nat) (t : Tm) (m : Int) : Prop where
 ok : t.ok
 d : ∃ d : Int,t.formed d = true ∧ (k : Int) = 41 - d ∧ 1 ≤ d ∧ m ≤ d
 n : t.nodes ≤ 600
 o : (t.nds 0).all (okN (imps sig) m) = true
 m0 : 0 ≤ m
theorem RC.sub {sig : List Dc} {k : Nat} {t x : Tm} {m : Int} (h : RC sig (k + 1) t m) {i : Nat} (hx : t.args[i]? = some x) : RC sig k x (m + und t.op i) := by
 obtain ⟨d,h1,h2,h3,h4⟩ := h.d
 have hm := List.mem_of_getElem? hx
 have := nodes_sub hm
 have hn := h.n
 have h0 := h.m0
 have u0 := und_pos t.op i
 have u1 := und_one t.op i
 exact ⟨h.ok.sub x hm,⟨d + 1,formed_sub h1 hm,by push_cast at h2; omega,by omega,by omega⟩,by omega,okN_sub h.o hx,by omega⟩
theorem RC.proper {sig : List Dc} {k : Nat} {t : Tm} {m : Int} (h : RC sig k t m) : t.proper = true := by
 obtain ⟨d,h1,h2,h3,h4⟩ := h.d
 simp only [Tm.proper,Bool.and_eq_true,decide_eq_true_eq]
 exact ⟨h.n,formed_mono t d 1 h3 h1⟩
theorem RC.mle {sig : List Dc} {k : Nat} {t : Tm} {m : Int} (h : RC sig k t m) : m ≤ 40 := by
 obtain ⟨d,h1,h2,h3,h4⟩ := h.d
 have := formed_le h1; omega
theorem occ_all {t : Tm} (h : occ t 0 = false) : (t.nds 0).all (fun x => !isV 0 x) = true := by
 rw [List.all_eq_true]
 intro x hx
 unfold occ at h
 rw [List.any_eq_false] at h
 simpa using h x hx
theorem RC.low {sig : List Dc} {k : Nat} {t : Tm} {m : Int} (h : RC sig k t (m + 1)) (hm : 0 ≤ m) (ho : occ t 0 = false) : RC sig k (t.moved (-1) 0) m := by
 obtain ⟨d,h1,h2,h3,h4⟩ := h.d
 have h5 := occ_all ho
 refine ⟨moved_ok t h.ok 0 d (by omega) h1,⟨d,moved_formed t 0 d (by omega) h1 h5,h2,h3,by omega⟩,by rw [moved_nodes]; exact h.n,?_,hm⟩
 have := moved_okN (imps sig) t 0 (m + 1) (by omega) h5 h.o
 rwa [show m + 1 - 1 = m by omega] at this
theorem rawF_eq (sig : List Dc) (nm : Int → ByteArray) (k : Nat) (t : Tm) (m : Int) : rawF sig nm (k + 1) t m =
  if t.op = 1 then .mk 1 ByteArray.empty []
  else if t.op = 2 then match t.args with
   | [a,b] => if occ b 0 then .mk 5 (nm m) [rawF sig nm k a m,rawF sig nm k b (m + 1)] else .mk 6 ByteArray.empty [rawF sig nm k a m,rawF sig nm k (b.moved (-1) 0) m]
   | _ => .mk 0 ByteArray.empty []
  else if t.op = 3 then match t.args with
   | [a] => .mk 7 (nm m) [.mk 3 ByteArray.empty [],rawF sig nm k a (m + 1)]
   | _ => .mk 0 ByteArray.empty []
  else (t.args.drop (impOf sig t).toNat).foldl (fun f x => .mk 4 ByteArray.empty [f,rawF sig nm k x m]) (.mk 2 (hName sig nm t m) []) := by
 rw [rawF]; rfl
theorem formed_lam {t : Tm} {d : Int} (h : t.formed d = true) (h3 : t.op = 3) : ∃ a,t.args = [a] := by
 rw [formed_eq] at h
 simp only [Bool.and_eq_true,decide_eq_true_eq] at h
 have h5 := h.2.1
 simp [shape,h3] at h5
 match hl : t.args,h5 with
 | [a],_ => exact ⟨a,rfl⟩
 | [],h => simp [hl] at h
 | _ :: _ :: _,h => simp [hl] at h; omega
def RSpec (sig : List Dc) (k : Nat) : Prop := ∀ (t : Tm) (m : Int),RC sig k t m → ∀ (p : Nat) (σ : Sto) (bars : List Nat),σ[p]? = some (.var (PP sig)) → (∀ b ∈ bars,b ≤ σ.length) →
 runV TT HH bars n_print_printer_raw [.ptr p 0,t.enc,.i m] σ = some (.ret (.tup [(rawF sig (vn sig) k t m).enc,.i 0]),σ)
theorem RSpec.at {sig : List Dc} {k : Nat} (h : RSpec sig k) {t : Tm} {m : Int} (hc : RC sig k t m) {p : Nat} {σ : Sto} (hp : σ[p]? = some (.var (PP sig))) {bars : List Nat} (hb : ∀ b ∈ bars,b ≤ σ.length) (ext : Sto) :
  RR TT HH (σ.length :: bars) n_print_printer_raw [.ptr p 0,t.enc,.i m] (σ ++ ext) = some (.ret (.tup [(rawF sig (vn sig) k t m).enc,.i 0]),σ ++ ext) := by
 rw [RR_open (by simp) (by simp),h t m hc p (σ ++ ext) _ (by rw [app_old _ (lt_of_get hp)]; exact hp) (fun b hm => by
  rw [List.length_append]
  rcases List.mem_cons.1 hm with rfl | hm
  ·omega
  ·have := hb b hm; omega)]
theorem name_at (sig : List Dc) (hl : sig.length ≤ maxLen) (hs : ∀ d ∈ sig,d.ok) (hok : sigOK sig = true) {p : Nat} {σ : Sto} (hp : σ[p]? = some (.var (PP sig))) (bars : List Nat) (ext : Sto) (n : Int) (h0 : 0 ≤ n) (h1 : n ≤ 42) : RR TT HH bars n_print_printer_name [.ptr p 0,.i n] (σ ++ ext) = some (.ret (.s (vn sig n)),σ ++ ext) := by
 rw [RR_open (by simp) (by simp),print_printer_name_spec sig hl hs hok p (σ ++ ext) (by rw [app_old _ (lt_of_get hp)]; exact hp) bars n h0 h1]
set_option maxHeartbeats 1000000 in
theorem print_pi_spec (sig : List Dc) (hl : sig.length ≤ maxLen) (hs : ∀ d ∈ sig,d.ok) (hok : sigOK sig = true) (k : Nat) (ih : RSpec sig k) (t : Tm) (m : Int) (hc : RC sig (k + 1) t m) (h2 : t.op = 2) (p : Nat) (σ : Sto) (bars : List Nat) (hp : σ[p]? = some (.var (PP sig))) (hb : ∀ b ∈ bars,b ≤ σ.length) :
  runV TT HH bars n_print_printer_pi [.ptr p 0,t.enc,.i m] σ = some (.ret (.tup [(rawF sig (vn sig) (k + 1) t m).enc,.i 0]),σ) := by
 rw [eq_print_printer_pi,rawF_eq]
 obtain ⟨d,hf,hk,hd1,hmd⟩ := hc.d
 obtain ⟨a,b,hab,ha,hbf⟩ := formed_pi hf h2
 have hm0 := hc.m0
 have hm40 := hc.mle
 have ca := hc.sub (i := 0) (by rw [hab]; rfl)
 have cb := hc.sub (i := 1) (by rw [hab]; rfl)
 simp only [h2,und] at ca cb
 simp at ca cb
 have hA := ih.at ca hp hb
 have hB := ih.at cb hp hb
 have hO := RR_of (term_Occurs_spec b cb.ok cb.proper) (by simp) (by simp)
 have hbn := cb.n
 have hM := RR_of (term_Moved_spec b cb.ok (d + 1) hbf (by omega) (by omega)) (by simp) (by simp)
 have hN := fun bars ext => name_at sig hl hs hok hp bars ext m hm0 (by omega)
 have hL' := fun ho => ih.at (cb.low hm0 ho) hp hb
 have hw : IntKind.i64.wrap (m + 1) = m + 1 := wrap_small _ (by omega) (by omega)
 have hpl := lt_of_get hp
 generalize hL : σ.length = L at *
 have tk : ∀ l : Sto,(σ ++ l).take L = σ := fun l => List.take_left' hL
 have hB1 : ∀ x,barsOk (L :: bars) (L + 1) x = true := fun x => barsOk_le x fun b hm => by
  rcases List.mem_cons.1 hm with rfl | hm
  ·omega
  ·have := hb b hm; omega
 have hB2 : ∀ x,barsOk bars (L + 1) x = true := fun x => barsOk_le x fun b hm => by have := hb b hm; omega
 rw [if_neg (by omega),if_pos h2,hab]
 cases ho : occ b 0 with
 | true =>
  rw [ho] at hO
  simp [ir_print_printer_pi,hab,encL_cons,hA,hB,hO,hN,hw,hL,hpl,tk,hB1,hB2,node2,tm_fold',rw_fold',-getElem?_pos,List.getElem?_cons_zero,List.getElem?_cons_succ,List.getElem?_nil,app_old,app_ge,set_old,set_ge,set_at,take_app,take_app1,take_set,take_set1]
  simp [ho,Rw.enc,encL_cons]
 | false =>
  rw [ho] at hO
  have hLo := hL' ho
  simp [ir_print_printer_pi,hab,encL_cons,hA,hLo,hM,hO,hN,hw,hL,hpl,tk,hB1,hB2,node2,tm_fold',rw_fold',-getElem?_pos,List.getElem?_cons_zero,List.getElem?_cons_succ,List.getElem?_nil,app_old,app_ge,set_old,set_ge,set_at,take_app,take_app1,take_set,take_set1]
  simp [ho,Rw.enc,encL_cons]
theorem print_raw_1_spec (sig : List Dc) (k : Nat) (ih : RSpec sig k) (f : Rw) (x : Tm) (m : Int) (hc : RC sig k x m) (p q r : Nat) (σ : Sto) (hq : σ[q]? = some (.var [.ptr p 0])) (hr : σ[r]? = some (.var [.i m])) (hp : σ[p]? = some (.var (PP sig))) (bars : List Nat) (hb : ∀ b ∈ bars,b ≤ σ.length) :
  runV TT HH bars n_print_printer_raw_1 [f.enc,x.enc,.ptr q 0,.ptr r 0] σ = some (.ret (.tup [(Rw.mk 4 ByteArray.empty [f,rawF sig (vn sig) k x m]).enc,.i 0]),σ) := by
 rw [eq_print_printer_raw_1]
 have hA := ih.at hc hp hb
 have hpl := lt_of_get hp
 have hql := lt_of_get hq
 have hrl := lt_of_get hr
 generalize hL : σ.length = L at *
 have tk : ∀ l : Sto,(σ ++ l).take L = σ := fun l => List.take_left' hL
 simp [ir_print_printer_raw_1,encL_cons,hA,hq,hr,hql,hrl,hL,hpl,tk,node2,tm_fold',rw_fold',-getElem?_pos,List.getElem?_cons_zero,List.getElem?_cons_succ,List.getElem?_nil,app_old,app_ge,set_old,set_ge,set_at,take_app,take_app1,take_set,take_set1]
 simp [Rw.enc,encL_cons]
set_option maxHeartbeats 1000000 in
theorem print_raw_spec (sig : List Dc) (hl : sig.length ≤ maxLen) (hs : ∀ d ∈ sig,d.ok) (hok : sigOK sig = true) : ∀ k : Nat,RSpec sig k := by
 intro k
 induction k with
 | zero =>
  intro t m hc
  obtain ⟨d,hf,hk,hd1,hmd⟩ := hc.d
  have := formed_le hf
  simp at hk; omega
 | succ k ih =>
  intro t m hc p σ bars hp hb
  rw [eq_print_printer_raw]
  obtain ⟨d,hf,hk,hd1,hmd⟩ := hc.d
  have hm0 := hc.m0
  have hm40 := hc.mle
  have hpl := lt_of_get hp
  have hpi := fun h2 => fun ext => print_pi_spec sig hl hs hok k ih t m hc h2 p (σ ++ ext) (σ.length :: bars) (by rw [app_old _ hpl]; exact hp) (fun b hm => by
   rw [List.length_append]
   rcases List.mem_cons.1 hm with rfl | hm
   ·omega
   ·have := hb b hm; omega)
  have hNm := fun bars ext => name_at sig hl hs hok hp bars ext m hm0 (by omega)
  have hw : IntKind.i64.wrap (m + 1) = m + 1 := wrap_small _ (by omega) (by omega)
  have hargs : ∀ x ∈ t.args,t.op = 4 → RC sig k x m := fun x hx h4 => by
   obtain ⟨i,hi⟩ := List.getElem?_of_mem hx
   have := hc.sub hi
   simpa [und,h4] using this
  have hA3 : ∀ a,t.args = [a] → t.op = 3 → RC sig k a (m + 1) := fun a ha h3 => by
   have := hc.sub (i := 0) (x := a) (by rw [ha]; rfl)
   simpa [und,h3] using this
  have hsh := formed_shape hf
  have ho := hc.o
  rw [nds_eq,List.all_cons,Bool.and_eq_true] at ho
  have e3 := ml hc.ok.len
  have hA := fun (a : Tm) (h : RC sig k a (m + 1)) => ih.at h hp hb
  have hraw1 : t.op = 4 → ∀ (a1 a3 : Ob) (f : Rw) (x : Tm) (bars' : List Nat) (ext : Sto),x ∈ t.args → (∀ b ∈ bars',b ≤ (σ ++ [.var [.ptr p 0],a1,.var [.i m],a3] ++ ext).length) → RR TT HH bars' n_print_printer_raw_1 (f.enc :: x.enc :: [.ptr σ.length 0,.ptr (σ.length + 2) 0]) (σ ++ [.var [.ptr p 0],a1,.var [.i m],a3] ++ ext) = some (.ret (.tup [(Rw.mk 4 ByteArray.empty [f,rawF sig (vn sig) k x m]).enc,.i 0]),σ ++ [.var [.ptr p 0],a1,.var [.i m],a3] ++ ext) := fun h4 a1 a3 f x bars' ext hx hb' => by
   rw [RR_open (by simp) (by simp),print_raw_1_spec sig k ih f x m (hargs x hx h4) p σ.length (σ.length + 2) _ (by simp) (by simp) (by rw [List.append_assoc,app_old _ hpl]; exact hp) bars' hb']
  have hhead : 0 ≤ t.n → ∀ bars ext,RR TT HH bars n_print_printer_head [.ptr p 0,t.enc,.i m] (σ ++ ext) = some (.ret (.tup [.s (hN sig t m),.i (hI sig t m),.i (hE sig t m)]),σ ++ ext) := fun h0 bars ext => by
   rw [RR_open (by simp) (by simp),print_printer_head_spec sig hl hs hok p (σ ++ ext) (by rw [app_old _ hpl]; exact hp) bars t hc.ok m hm0 (by omega) h0]
  clear ih
  generalize hL : σ.length = L at *
  have tk : ∀ l : Sto,(σ ++ l).take L = σ := fun l => List.take_left' hL
  rcases shape_op hsh with h | h | h | h
  ·rw [rawF_eq]
   simp [ir_print_printer_raw,h,hp,hpl,hL,tk,node0,rw_fold',-getElem?_pos,List.getElem?_cons_zero,List.getElem?_cons_succ,List.getElem?_nil,app_old,app_ge,set_old,set_ge,set_at,take_app,take_app1,take_set,take_set1]
   simp [Rw.enc]
  ·have hpi' : ∀ ext,RR TT HH (L :: bars) n_print_printer_pi [.ptr p 0,t.enc,.i m] (σ ++ ext) = some (.ret (.tup [(rawF sig (vn sig) (k + 1) t m).enc,.i 0]),σ ++ ext) := fun ext => by
    rw [RR_open (by simp) (by simp)]; exact hpi h ext
   clear hpi hhead hraw1 hargs hA3 hA
   generalize rawF sig (vn sig) (k + 1) t m = R at hpi' ⊢
   obtain ⟨op,hd,n,args⟩ := t
   simp only [Tm.op_mk] at h
   subst h
   simp [ir_print_printer_raw,hp,hpl,hL,tk,hpi',tm_fold,rw_fold',-getElem?_pos,List.getElem?_cons_zero,List.getElem?_cons_succ,List.getElem?_nil,app_old,app_ge,set_old,set_ge,set_at,take_app,take_app1,take_set,take_set1]
  ·rw [rawF_eq]
   obtain ⟨a,hab⟩ := formed_lam hf h
   have hA := hA a (hA3 a hab h)
   simp [ir_print_printer_raw,h,hab,encL_cons,hp,hpl,hL,tk,hA,hNm,hw,node0,node2h,tm_fold',rw_fold',-getElem?_pos,List.getElem?_cons_zero,List.getElem?_cons_succ,List.getElem?_nil,app_old,app_ge,set_old,set_ge,set_at,take_app,take_app1,take_set,take_set1]
   simp [Rw.enc,encL_cons]
  ·rw [rawF_eq]
   obtain ⟨_,_,n0,_⟩ := shape4 hsh h
   obtain ⟨g1,g2,g3,g4,g5,-⟩ := head_ok hok ho.1 h n0
   have hhead := hhead n0
   rw [g1,g2,g3] at hhead
   have g4' : ((impOf sig t).toNat : Int) = impOf sig t := by omega
   have hfold : ∀ a1 a3,RR TT HH (L :: bars) n_print_fold_api_Term_api_Raw [(Rw.mk 2 (hName sig (vn sig) t m) []).enc,.sl false (encL (t.args.drop (impOf sig t).toNat)),.fn (.func n_print_printer_raw_1) [.ptr L 0,.ptr (L + 2) 0]] (σ ++ [.var [.ptr p 0],a1,.var [.i m],a3]) = some (.ret (.tup [((t.args.drop (impOf sig t).toNat).foldl (fun f x => Rw.mk 4 ByteArray.empty [f,rawF sig (vn sig) k x m]) (Rw.mk 2 (hName sig (vn sig) t m) [])).enc,.i 0]),σ ++ [.var [.ptr p 0],a1,.var [.i m],a3]) := fun a1 a3 =>
    print_fold_spec n_print_printer_raw_1 [.ptr L 0,.ptr (L + 2) 0] (by simp) (by simp) (fun f x => .mk 4 ByteArray.empty [f,rawF sig (vn sig) k x m]) (σ ++ [.var [.ptr p 0],a1,.var [.i m],a3]) (fun n hn => by simp [hL] at hn ⊢; omega) (t.args.drop (impOf sig t).toNat) (by simp; omega)
     (fun f x bars' ext hx hb' => hraw1 h a1 a3 f x bars' ext (List.mem_of_mem_drop hx) hb') (.mk 2 (hName sig (vn sig) t m) []) (L :: bars) (fun b hm => by
      rw [List.length_append,hL]
      rcases List.mem_cons.1 hm with rfl | hm
      ·omega
      ·have := hb b hm; omega)
   have htl : (t.args.drop (impOf sig t).toNat).take (t.args.length - (impOf sig t).toNat) = t.args.drop (impOf sig t).toNat := List.take_of_length_le (by simp)
   obtain ⟨op,hd,n,args⟩ := t
   simp only [Tm.op_mk] at h
   subst h
   simp only [Tm.op_mk,Tm.args_mk] at *
   simp [ir_print_printer_raw,hp,hpl,hL,tk,hhead,hfold,htl,g4,g5,node0,tm_fold,rw_fold',-getElem?_pos,List.getElem?_cons_zero,List.getElem?_cons_succ,List.getElem?_nil,app_old,app_ge,set_old,set_ge,set_at,take_app,take_app1,take_set,take_set1]
end Go.Ev


namespace Go.Ev
theorem scN_heads (sig : List Dc) (t : Tm) (hf : t.formed 1 = true) : (t.nds 0).all (scN sig) = (lastLt (heads 2 (t.nds 0) []) sig.length && decide (heads 3 (t.nds 0) [] = []) && lastLt (heads 1 (t.nds 0) []) 0) := by
 rw [lastLt_heads,heads_empty,lastLt_heads,Bool.eq_iff_iff]
 simp only [Bool.and_eq_true,List.all_eq_true]
 constructor
 ·intro h
  refine ⟨⟨fun x hx => ?_,fun x hx => ?_⟩,fun x hx => ?_⟩ <;>
  ·have h1 := h x hx
   have h2 := formed_nd hf (by omega) hx
   unfold hval
   by_cases a : x.1.op = 4
   ·have h3 := shape4 h2.1 a
    simp only [scN,a,decide_true,Bool.not_true,Bool.false_or,Bool.or_eq_true,Bool.and_eq_true,decide_eq_true_eq] at h1
    by_cases b : x.1.hd = 1 <;> by_cases c : x.1.hd = 2 <;> by_cases d : x.1.hd = 3 <;> by_cases e : x.2 ≤ x.1.n <;> simp [a,b,c,d,e] at h1 ⊢ <;> omega
   ·simp [a]
 ·rintro ⟨⟨h1,h2⟩,h3⟩ x hx
  have h1 := h1 x hx
  have h2 := h2 x hx
  have h3 := h3 x hx
  have h4 := formed_nd hf (by omega) hx
  unfold hval at h1 h2 h3
  unfold scN
  by_cases a : x.1.op = 4
  ·have h5 := shape4 h4.1 a
   by_cases b : x.1.hd = 1 <;> by_cases c : x.1.hd = 2 <;> by_cases d : x.1.hd = 3 <;> by_cases e : x.2 ≤ x.1.n <;> simp [a,b,c,d,e] at h1 h2 h3 ⊢ <;> omega
  ·simp [a]
theorem ref07_Printer_scoped_spec (sig : List Dc) (hl : sig.length ≤ maxLen) (t : Tm) (h : t.ok) (hp : t.proper = true) : runV TT HH [] n_ref07_Printer_scoped [RP sig,.i 0,t.enc] [] = some (.ret (.b ((t.nds 0).all (scN sig))),[]) := by
 have hf := proper_formed hp
 have hn := proper_nodes hp
 have hl' := ml hl
 rw [eq_ref07_Printer_scoped,scN_heads sig t hf]
 have h1 := RR_of (ref03_Free_spec t h 1 hf (by omega) (by omega)) (by simp) (by simp)
 have h2 := RR_of (ref03_Constants_spec t h 1 hf (by omega) (by omega)) (by simp) (by simp)
 have h3 := RR_of (ref03_Metas_spec t h 1 hf (by omega) (by omega)) (by simp) (by simp)
 have l1 := heads_len 1 (t.nds 0) []
 have l2 := heads_len 2 (t.nds 0) []
 have l3 := heads_len 3 (t.nds 0) []
 rw [nds_len,List.length_nil] at l1 l2 l3
 have m3p : ∀ x ∈ heads 3 (t.nds 0) [],0 ≤ x := fun x hx => by
  rcases (mem_heads 3 (t.nds 0) [] x).1 hx with hx | ⟨y,hy,hv⟩
  ·cases hx
  ·have h4 := formed_nd hf (by omega) hy
   unfold hval at hv
   split at hv
   ·rename_i hc
    have := (shape4 h4.1 hc.1).2.2.1
    simp at hv
    omega
   ·cases hv
 generalize heads 1 (t.nds 0) [] = a1 at *
 generalize heads 2 (t.nds 0) [] = a2 at *
 generalize heads 3 (t.nds 0) [] = a3 at *
 have key : ∀ (l : List Int),l.length ≤ 0 + t.nodes → l = [] ∨ ∃ i x,l = i ++ [x] ∧ IntKind.i64.wrap ((i.length : Int) + 1 - 1) = i.length ∧ IntKind.i64.wrap (i.length : Int) = i.length ∧ ¬ (i.length : Int) + 1 = 0 ∧ i.length + 1 < 2 ^ 63 ∧ ∀ h,(encL (i ++ [x]))[i.length]'h = [PV.i x] := fun l hll => by
  rcases List.eq_nil_or_concat l with e | ⟨i,x,e⟩
  ·exact .inl e
  ·rw [List.concat_eq_append] at e
   subst e
   simp at hll
   exact .inr ⟨i,x,rfl,by rw [wrap_small _ (by omega) (by omega)]; omega,wrap_small _ (by omega) (by omega),by omega,by omega,fun h => by simp [encL]⟩
 rcases key a1 l1 with e1 | ⟨i1,x1,e1,w1,v1,n1,z1,g1⟩ <;> rcases key a2 l2 with e2 | ⟨i2,x2,e2,w2,v2,n2,z2,g2⟩ <;> rcases key a3 l3 with e3 | ⟨i3,x3,e3,w3,v3,n3,z3,g3⟩
 all_goals
  subst e1; subst e2; subst e3
  try simp only [encL_nil] at h1 h2 h3
 ·simp [ir_ref07_Printer_scoped,RP,h1,h2,h3,tm_fold',lastLt]
 ·have m3 := m3p x3 (by simp)
  have m3' : ¬ x3 < 0 := by omega
  simp [ir_ref07_Printer_scoped,RP,h1,h2,h3,tm_fold',lastLt,v3,n3,z3,g3,m3']
 ·simp [ir_ref07_Printer_scoped,RP,h1,h2,h3,tm_fold',lastLt,v2,n2,z2,g2,hl']
  by_cases c : x2 < sig.length <;> simp [c]
 ·have m3 := m3p x3 (by simp)
  have m3' : ¬ x3 < 0 := by omega
  by_cases c : x2 < sig.length <;> simp [ir_ref07_Printer_scoped,RP,h1,h2,h3,tm_fold',lastLt,v2,n2,z2,g2,v3,n3,z3,g3,m3',hl',c]
 ·by_cases c1 : x1 < 0 <;> simp [ir_ref07_Printer_scoped,RP,h1,h2,h3,tm_fold',lastLt,v1,n1,z1,g1,hl',c1]
 ·have m3 := m3p x3 (by simp)
  have m3' : ¬ x3 < 0 := by omega
  by_cases c1 : x1 < 0 <;> simp [ir_ref07_Printer_scoped,RP,h1,h2,h3,tm_fold',lastLt,v1,n1,z1,g1,v3,n3,z3,g3,m3',hl',c1]
 ·by_cases c1 : x1 < 0 <;> by_cases c : x2 < sig.length <;> simp [ir_ref07_Printer_scoped,RP,h1,h2,h3,tm_fold',lastLt,v1,n1,z1,g1,v2,n2,z2,g2,hl',c1,c]
 ·have m3 := m3p x3 (by simp)
  have m3' : ¬ x3 < 0 := by omega
  by_cases c1 : x1 < 0 <;> by_cases c : x2 < sig.length <;> simp [ir_ref07_Printer_scoped,RP,h1,h2,h3,tm_fold',lastLt,v1,n1,z1,g1,v2,n2,z2,g2,v3,n3,z3,g3,m3',hl',c1,c]
end Go.Ev


namespace Go.Ev
theorem ref07_Printer_full_spec (sig : List Dc) : ∀ t : Tm,t.ok → ∀ (b : Int),(∀ y ∈ t.nds b,y.1.op = 4 → y.1.hd = 2 → 0 ≤ y.1.n ∧ y.1.n < sig.length) →
  runV TT HH [] n_ref07_Printer_full [RP sig,t.enc] [] = some (.ret (.b ((t.nds b).all (fuN sig))),[]) :=
 Tm.ind fun t ih hok b hP => by
  rw [eq_ref07_Printer_full]
  rw [nds_eq] at hP ⊢
  rw [List.all_cons]
  have e3 := ml hok.len
  have h0 := hP (t,b) (List.mem_cons_self ..)
  have hlo := fun (o1 o2 o3 : Int) => LO_list (T := TT) (H := HH) (b := [0]) (A := ir_ref07_Printer_fullL0) t.args
   (fun i (_ : Unit) => ([(2,.ptr 0 0),(3,.ptr 1 0),(5,.i i)],[.var [.sl false (encL sig),.sl false [],.sl false []],.var [.i o1,.i o2,.i o3,.sl false (encL t.args)]]))
   (fun r i _ => if (Tm.ndsL t.op r i b).all (fuN sig) then (.exit 0,[],[.var [.sl false (encL sig),.sl false [],.sl false []],.var [.i o1,.i o2,.i o3,.sl false (encL t.args)]]) else (.ret,[(4,.b false)],[.var [.sl false (encL sig),.sl false [],.sl false []],.var [.i o1,.i o2,.i o3,.sl false (encL t.args)]]))
   (fun i _ => ∀ y ∈ Tm.ndsL t.op (t.args.drop i) i b,y.1.op = 4 → y.1.hd = 2 → 0 ≤ y.1.n ∧ y.1.n < sig.length)
   (fun _ _ => by
    rw [E_EK]
    simp [ir_ref07_Printer_fullL0,e3,Tm.ndsL])
   (fun i x r _ hx hm hd hi hv => by
    have e1 : (i : Int) < t.args.length := by omega
    have hw : IntKind.i64.wrap ((i : Int) + 1) = (i : Int) + 1 := wrap_small _ (by omega) (by omega)
    have hr : t.args.drop (i + 1) = r := by have := congrArg List.tail hd; simpa using this
    rw [hd,Tm.ndsL] at hv
    have hc := RR_of (ih x hm (hok.sub x hm) (b + und t.op i) (fun y hy => hv y (List.mem_append_left _ hy))) (by simp [RP]) (by simp)
    simp only [RP] at hc
    rw [E_EK,Tm.ndsL,List.all_append]
    cases h : (x.nds (b + und t.op i)).all (fuN sig) with
    | true =>
     rw [h] at hc
     refine .inr ⟨(),?_,fun y hy => hv y (List.mem_append_right _ (by rw [hr] at hy; push_cast at hy; exact hy)),by simp [-List.all_eq_true]⟩
     simp [ir_ref07_Printer_fullL0,e1,e3,hx,hc,hw,tm_fold']
    | false =>
     rw [h] at hc
     refine .inl ⟨?_,by simp⟩
     simp [ir_ref07_Printer_fullL0,e1,e3,hx,hc,hw,tm_fold']) 0 () (by omega)
  have hlo := fun o1 o2 o3 => hlo o1 o2 o3 (fun y hy => hP y (List.mem_cons_of_mem _ hy))
  simp only [List.drop_zero] at hlo
  clear ih hP
  have hfu : fuN sig (t,b) = (!(decide (t.op = 4) && decide (t.hd = 2)) || (match sig[t.n.toNat]? with | some d => decide (d.imp ≤ t.args.length) | none => false)) := rfl
  rw [hfu]
  by_cases a : t.op = 4
  ·by_cases c : t.hd = 2
   ·obtain ⟨n0,n1⟩ := h0 a c
    obtain ⟨d,hd,-,-⟩ := get_some (l := sig) (i := t.n.toNat) (by simp only at n0 n1; omega)
    simp only at n0
    by_cases e : d.imp ≤ t.args.length
    ·have e' : ¬ (t.args.length : Int) < d.imp := by omega
     cases h : (Tm.ndsL t.op t.args 0 b).all (fuN sig) <;> simp [h] at hlo <;> simp [ir_ref07_Printer_full,RP,a,c,n0,hd,e,e',e3,hlo]
    ·have e' : (t.args.length : Int) < d.imp := by omega
     simp [ir_ref07_Printer_full,RP,a,c,n0,hd,e,e',e3]
   ·cases h : (Tm.ndsL t.op t.args 0 b).all (fuN sig) <;> simp [h] at hlo <;> simp [ir_ref07_Printer_full,RP,a,c,hlo]
  ·cases h : (Tm.ndsL t.op t.args 0 b).all (fuN sig) <;> simp [h] at hlo <;> simp [ir_ref07_Printer_full,RP,a,hlo]
theorem ref07_Printer_head_spec (sig : List Dc) (hl : sig.length ≤ maxLen) (hs : ∀ d ∈ sig,d.ok) (hok : sigOK sig = true) (t : Tm) (m : Int) (h0 : 0 ≤ m) (h1 : m ≤ 42) (hn : 0 ≤ t.n) (h : t.hd = 1 ∧ t.n < m ∨ t.hd = 2 ∧ t.n < sig.length) : runV TT HH [] n_ref07_Printer_head [RP sig,.i m,t.enc] [] = some (.ret (.s (hName sig (vn sig) t m)),[]) := by
 rw [eq_ref07_Printer_head]
 rcases h with ⟨a,b⟩ | ⟨a,b⟩
 ·have hv := RR_of (ref07_Printer_variable_spec sig hl hs hok (m - 1 - t.n) (by omega) (by omega)) (by simp [RP]) (by simp)
  have hw : IntKind.i64.wrap (m - 1) = m - 1 := wrap_small _ (by omega) (by omega)
  have hw2 : IntKind.i64.wrap (m - 1 - t.n) = m - 1 - t.n := wrap_small _ (by omega) (by omega)
  simp only [RP] at hv
  simp [ir_ref07_Printer_head,RP,hName,a,hv,hw,hw2]
 ·obtain ⟨d,hd,-,-⟩ := get_some (l := sig) (i := t.n.toNat) (by omega)
  simp [ir_ref07_Printer_head,RP,hName,a,hd,hn]
set_option maxHeartbeats 2000000 in
theorem ref07_Printer_raw_spec (sig : List Dc) (hl : sig.length ≤ maxLen) (hs : ∀ d ∈ sig,d.ok) (hok : sigOK sig = true) : ∀ (k : Nat) (t : Tm) (m : Int),RC sig k t m → runV TT HH [] n_ref07_Printer_raw [RP sig,.i m,t.enc] [] = some (.ret (rawF sig (vn sig) k t m).enc,[]) := by
 intro k
 induction k with
 | zero =>
  intro t m hc
  obtain ⟨d,hf,hk,hd1,hmd⟩ := hc.d
  have := formed_le hf
  simp at hk; omega
 | succ k ih =>
  intro t m hc
  rw [eq_ref07_Printer_raw,rawF_eq]
  obtain ⟨d,hf,hk,hd1,hmd⟩ := hc.d
  have hm0 := hc.m0
  have hm40 := hc.mle
  have hv := RR_of (ref07_Printer_variable_spec sig hl hs hok m hm0 (by omega)) (by simp [RP]) (by simp)
  have hw : IntKind.i64.wrap (m + 1) = m + 1 := wrap_small _ (by omega) (by omega)
  have hR := fun x m' (h : RC sig k x m') => RR_of (ih x m' h) (by simp [RP]) (by simp)
  have hargs : ∀ x ∈ t.args,t.op = 4 → RC sig k x m := fun x hx h4 => by
   obtain ⟨i,hi⟩ := List.getElem?_of_mem hx
   have := hc.sub hi
   simpa [und,h4] using this
  have hsh := formed_shape hf
  have ho := hc.o
  rw [nds_eq,List.all_cons,Bool.and_eq_true] at ho
  have e3 := ml hc.ok.len
  simp only [RP] at hv hR
  rcases shape_op hsh with h | h | h | h
  ·simp [ir_ref07_Printer_raw,RP,h,barsOk,Rw.enc]
  ·obtain ⟨a,b,hab,ha,hbf⟩ := formed_pi hf h
   have ca := hc.sub (i := 0) (by rw [hab]; rfl)
   have cb := hc.sub (i := 1) (by rw [hab]; rfl)
   simp only [h,und] at ca cb
   simp at ca cb
   have hA := hR a m ca
   have hO := RR_of (ref03_Occurs_spec b cb.ok (d + 1) hbf (by omega)) (by simp) (by simp)
   rw [if_neg (by omega),if_pos h,hab]
   cases ho : occ b 0 with
   | true =>
    rw [ho] at hO
    have hB := hR b (m + 1) cb
    simp [ir_ref07_Printer_raw,RP,h,hab,encL_cons,hA,hB,hO,hv,hw,barsOk,tm_fold',rw_fold']
    simp [ho,Rw.enc,encL_cons]
   | false =>
    rw [ho] at hO
    have hL := RR_of (ref07_lowered_spec b cb.ok cb.proper ho) (by simp) (by simp)
    have hB := hR (b.moved (-1) 0) m (cb.low hm0 ho)
    simp [ir_ref07_Printer_raw,RP,h,hab,encL_cons,hA,hB,hO,hL,hv,hw,barsOk,tm_fold',rw_fold']
    simp [ho,Rw.enc,encL_cons]
  ·obtain ⟨a,hab⟩ := formed_lam hf h
   have ca := hc.sub (i := 0) (by rw [hab]; rfl)
   simp only [h,und] at ca
   simp at ca
   have hA := hR a (m + 1) ca
   rw [if_neg (by omega),if_neg (by omega),if_pos h,hab]
   simp [ir_ref07_Printer_raw,RP,h,hab,encL_cons,hA,hv,hw,barsOk,tm_fold',rw_fold']
   simp [Rw.enc,encL_cons]
  ·obtain ⟨_,_,n0,_⟩ := shape4 hsh h
   obtain ⟨g1,g2,g3,g4,g5,g6⟩ := head_ok hok ho.1 h n0
   have hH := RR_of (ref07_Printer_head_spec sig hl hs hok t m hm0 (by omega) n0 g6) (by simp [RP]) (by simp)
   simp only [RP] at hH
   have hlo := fun (o1 o2 o3 : Int) => LO_list (T := TT) (H := HH) (b := [0]) (A := ir_ref07_Printer_rawL0) t.args
    (fun i (f : Rw × Bool) => ([(1,.i m),(3,.ptr 0 0),(5,.ptr 1 0),(6,.ptr 2 0),(8,.ptr 4 0),(10,.i i)],[.var [.sl false (encL sig),.sl false [],.sl false []],.var [.i o1,.i o2,.i o3,.sl false (encL t.args)],.var [.i 0,.s ByteArray.empty,.ow 3 0 []],.tok 3 0,.var [.i f.1.op,.s f.1.name,.sl f.2 (encL f.1.args)]]))
    (fun r i f => (.exit 1,[(6,.ptr 2 0),(8,.ptr 4 0)],[.var [.sl false (encL sig),.sl false [],.sl false []],.var [.i o1,.i o2,.i o3,.sl false (encL t.args)],.var [.i 0,.s ByteArray.empty,.ow 3 0 []],.tok 3 0,.var [.i (r.foldl (fun f x => Rw.mk 4 ByteArray.empty [f,rawF sig (vn sig) k x m]) f.1).op,.s (r.foldl (fun f x => Rw.mk 4 ByteArray.empty [f,rawF sig (vn sig) k x m]) f.1).name,.sl (f.2 && r.isEmpty) (encL (r.foldl (fun f x => Rw.mk 4 ByteArray.empty [f,rawF sig (vn sig) k x m]) f.1).args)]]))
    (fun _ _ => True)
    (fun f _ => by
     rw [E_EK]
     simp [ir_ref07_Printer_rawL0,e3])
    (fun i x r f hx hm hd hi _ => by
     have e1 : (i : Int) < t.args.length := by omega
     have hw : IntKind.i64.wrap ((i : Int) + 1) = (i : Int) + 1 := wrap_small _ (by omega) (by omega)
     have hX := hR x m (hargs x hm h)
     obtain ⟨f,tt⟩ := f
     refine .inr ⟨(Rw.mk 4 ByteArray.empty [f,rawF sig (vn sig) k x m],false),?_,trivial,by simp⟩
     rw [E_EK]
     simp [ir_ref07_Printer_rawL0,e1,e3,hx,hX,hw,encL_cons,tm_fold',rw_fold']) (impOf sig t).toNat (Rw.mk 2 (hName sig (vn sig) t m) [],true) (by omega) trivial
   have hci : ((impOf sig t).toNat : Int) = impOf sig t := by omega
   rw [hci] at hlo
   simp only [Rw.op_mk,Rw.name_mk,Rw.args_mk,encL_nil] at hlo
   rw [if_neg (by omega),if_neg (by omega),if_neg (by omega)]
   clear ih hR hargs hc
   rcases g6 with ⟨q1,q2⟩ | ⟨q1,q2⟩
   ·have hi0 : impOf sig t = 0 := by simp [impOf,q1]
    rw [hi0] at hlo ⊢
    obtain ⟨op,hd,n,args⟩ := t
    simp only [Tm.op_mk,Tm.hd_mk] at h q1
    subst h; subst q1
    simp only [Tm.op_mk,Tm.hd_mk,Tm.n_mk,Tm.args_mk] at hlo hH ⊢
    simp [ir_ref07_Printer_raw,RP,hH,hlo,barsOk,tm_fold,rw_fold']
   ·obtain ⟨dd,hdd,-,-⟩ := get_some (l := sig) (i := t.n.toNat) (by omega)
    have hi0 : impOf sig t = dd.imp := by simp [impOf,q1,hdd]
    rw [hi0] at hlo ⊢
    obtain ⟨op,hd,n,args⟩ := t
    simp only [Tm.op_mk,Tm.hd_mk,Tm.n_mk] at h q1 hdd n0
    subst h; subst q1
    simp only [Tm.op_mk,Tm.hd_mk,Tm.n_mk,Tm.args_mk] at hlo hH ⊢
    simp [ir_ref07_Printer_raw,RP,hH,hlo,hdd,n0,barsOk,tm_fold,rw_fold']
end Go.Ev


namespace Go.Ev
theorem pNm_size (sig : List Dc) : ∀ (k : Nat) (s : ByteArray),(pNm k sig s).size ≤ s.size + k := by
 intro k
 induction k with
 | zero => intro s; simp [pNm]
 | succ k ih =>
  intro s
  rw [pNm_succ]
  split
  ·have := ih (s ++ ⟨#[39]⟩)
   rw [size_app,sz39] at this
   omega
  ·omega
theorem vn_size (sig : List Dc) (n : Int) (h0 : 0 ≤ n) (h1 : n ≤ 42) : (vn sig n).size ≤ 23 := by
 have h := pNm_size sig 20 (⟨#[120]⟩ ++ itoaB (n + 1))
 have h2 := (itoa_spec (n + 1) (by omega) (by omega)).2
 rw [size_app,sz120] at h
 unfold vn
 omega
theorem rok {op : Int} {nm : ByteArray} {l : List Rw} (h0 : 0 ≤ op) (h1 : op ≤ 7) (h2 : nm.size ≤ 100) (h3 : l.length ≤ 2) (h : ∀ x ∈ l,x.ok) : (Rw.mk op nm l).ok :=
 ⟨by simp only [Rw.op_mk,I64]; omega,by simp only [Rw.name_mk,maxLen]; omega,by simp only [Rw.args_mk,maxLen]; omega,h⟩
theorem rawF_ok {sig : List Dc} (hok : sigOK sig = true) : ∀ (k : Nat) (t : Tm) (m : Int),RC sig k t m → (rawF sig (vn sig) k t m).ok := by
 intro k
 induction k with
 | zero =>
  intro t m hc
  obtain ⟨d,hf,hk,hd1,hmd⟩ := hc.d
  have := formed_le hf
  simp at hk; omega
 | succ k ih =>
  intro t m hc
  rw [rawF_eq]
  obtain ⟨d,hf,hk,hd1,hmd⟩ := hc.d
  have hm0 := hc.m0
  have hm40 := hc.mle
  have hv := vn_size sig m hm0 (by omega)
  have hsh := formed_shape hf
  have ho := hc.o
  rw [nds_eq,List.all_cons,Bool.and_eq_true] at ho
  have e0 : ByteArray.empty.size ≤ 100 := by simp
  rcases shape_op hsh with h | h | h | h
  ·rw [if_pos h]; exact rok (by omega) (by omega) e0 (by simp) (by simp)
  ·obtain ⟨a,b,hab,ha,hbf⟩ := formed_pi hf h
   have ca := hc.sub (i := 0) (by rw [hab]; rfl)
   have cb := hc.sub (i := 1) (by rw [hab]; rfl)
   simp only [h,und] at ca cb
   simp at ca cb
   rw [if_neg (by omega),if_pos h,hab]
   simp only
   split
   ·exact rok (by omega) (by omega) (by omega) (by simp) (by simpa using ⟨ih a m ca,ih b (m + 1) cb⟩)
   ·rename_i ho'
    simp only [Bool.not_eq_true] at ho'
    exact rok (by omega) (by omega) e0 (by simp) (by simpa using ⟨ih a m ca,ih _ m (cb.low hm0 ho')⟩)
  ·obtain ⟨a,hab⟩ := formed_lam hf h
   have ca := hc.sub (i := 0) (by rw [hab]; rfl)
   simp only [h,und] at ca
   simp at ca
   rw [if_neg (by omega),if_neg (by omega),if_pos h,hab]
   exact rok (by omega) (by omega) (by omega) (by simp) (by simpa using ⟨rok (by omega) (by omega) e0 (by simp) (by simp),ih a (m + 1) ca⟩)
  ·obtain ⟨_,_,n0,_⟩ := shape4 hsh h
   obtain ⟨g1,g2,g3,g4,g5,g6⟩ := head_ok hok ho.1 h n0
   rw [if_neg (by omega),if_neg (by omega),if_neg (by omega)]
   have hargs : ∀ x ∈ t.args.drop (impOf sig t).toNat,(rawF sig (vn sig) k x m).ok := fun x hx => by
    obtain ⟨i,hi⟩ := List.getElem?_of_mem (List.mem_of_mem_drop hx)
    have := hc.sub hi
    exact ih x m (by simpa [und,h] using this)
   have hhd : (hName sig (vn sig) t m).size ≤ 100 := by
    unfold hName
    rcases g6 with ⟨q1,q2⟩ | ⟨q1,q2⟩
    ·rw [if_pos q1]; have := vn_size sig (m - 1 - t.n) (by omega) (by omega); omega
    ·rw [if_neg (by omega)]
     obtain ⟨dd,hdd,hm,-⟩ := get_some (l := sig) (i := t.n.toNat) (by omega)
     rw [hdd]
     have := isCon_size (sigOK_mem hok hm).2.1
     simp only; omega
   generalize t.args.drop (impOf sig t).toNat = l at hargs
   have key : ∀ (l : List Tm),(∀ x ∈ l,(rawF sig (vn sig) k x m).ok) → ∀ f : Rw,f.ok → (l.foldl (fun f x => Rw.mk 4 ByteArray.empty [f,rawF sig (vn sig) k x m]) f).ok := by
    intro l
    induction l with
    | nil => intro _ f h; exact h
    | cons a r ihl =>
     intro h f hf
     exact ihl (fun x hx => h x (by simp [hx])) _ (rok (by omega) (by omega) e0 (by simp) (by simpa using ⟨hf,h a (by simp)⟩))
   exact key l hargs _ (rok (by omega) (by omega) hhd (by simp) (by simp))
theorem top_RC {sig : List Dc} {t : Tm} (ht : t.ok) (hp : t.proper = true) (h1 : (t.nds 0).all (scN sig) = true) (h2 : (t.nds 0).all (fuN sig) = true) : RC sig 40 t 0 := by
 refine ⟨ht,⟨1,proper_formed hp,by omega,by omega,by omega⟩,proper_nodes hp,?_,by omega⟩
 rw [List.all_eq_true] at h1 h2 ⊢
 intro x hx
 have h1 := h1 x hx
 have h2 := h2 x hx
 unfold okN imps
 rw [List.getElem?_map]
 unfold scN at h1
 unfold fuN at h2
 by_cases a : x.1.op = 4
 ·by_cases b : x.1.hd = 1
  ·simp [a,b] at h1 ⊢; exact h1
  ·by_cases c : x.1.hd = 2
   ·cases hd : sig[x.1.n.toNat]? <;> simp [a,b,c,hd] at h1 h2 ⊢ <;> exact h2
   ·simp [a,b,c] at h1
 ·simp [a]
def rawT (sig : List Dc) (t : Tm) : Rw := rawF sig (vn sig) 40 t 0
def showC (sig : List Dc) (t : Tm) : Int := if (t.nds 0).all (scN sig) = false then 27 else if (t.nds 0).all (fuN sig) = false then 23 else if (rawT sig t).well = false then 5 else 0
theorem worst_eq (sig : List Dc) (t : Tm) (hp : t.proper = true) : worst sig t = if (t.nds 0).all (scN sig) = false then 27 else if (t.nds 0).all (fuN sig) = false then 23 else 0 := by
 have := wfold sig (t.nds 0) (fun x hx h4 => (shape4 (formed_nd (proper_formed hp) (by omega) hx).1 h4).2.2.1) 0 (.inl rfl)
 unfold worst
 rw [this]
 cases (t.nds 0).all (scN sig) <;> cases (t.nds 0).all (fuN sig) <;> rfl
def rw0 : Rw := .mk 0 ByteArray.empty []
theorem print_good_spec (sig : List Dc) (hl : sig.length ≤ maxLen) (hs : ∀ d ∈ sig,d.ok) (t : Tm) (ht : t.ok) : runV TT HH [] n_print_good [.sl false (encL sig),.sl false [],.sl true [[.i t.op,.i t.hd,.i t.n,.sl false (encL t.args)]]] [] = some (.ret (.b (sigOK sig && t.proper)),[]) := by
 rw [eq_print_good]
 have h1 := RR_of (sign_Check_spec sig hl hs) (by simp) (by simp)
 have h2 := RR_of (term_Check_spec t ht) (by simp) (by simp)
 have hl0 : LO TT HH [0] ir_print_goodL0 ([(2,.sl false [[.i t.op,.i t.hd,.i t.n,.sl false (encL t.args)]]),(19,.sl false []),(20,.i 0),(21,.i 0)],[]) = some (.exit 0,[(2,.sl false [[.i t.op,.i t.hd,.i t.n,.sl false (encL t.args)]])],[]) := by
  rw [LO_eq,E_EK]
  simp [ir_print_goodL0]
 have hw : IntKind.i64.wrap 1 = 1 := wrap_small _ (by omega) (by omega)
 have hl1 : LO TT HH [0] ir_print_goodL1 ([(35,.sl false [[.i t.op,.i t.hd,.i t.n,.sl false (encL t.args)]]),(36,.i 1),(37,.i 0)],[]) = if t.proper then some (.exit 2,[],[]) else some (.ret,[(6,.b false)],[]) := by
  rw [LO_eq,E_EK]
  cases hp : t.proper
  ·rw [hp] at h2
   simp [ir_print_goodL1,h2,tm_fold']
  ·rw [hp] at h2
   have hl2 : LO TT HH [0] ir_print_goodL1 ([(35,.sl false [[.i t.op,.i t.hd,.i t.n,.sl false (encL t.args)]]),(36,.i 1),(37,.i 1)],[]) = some (.exit 2,[],[]) := by
    rw [LO_eq,E_EK]
    simp [ir_print_goodL1]
   generalize LO TT HH [0] ir_print_goodL1 = F at hl2 ⊢
   simp [ir_print_goodL1,h2,tm_fold',hw,hl2]
 cases hso : sigOK sig
 ·rw [hso] at h1
  simp [ir_print_good,h1]
 ·rw [hso] at h1
  cases hp : t.proper <;> simp [hp] at hl1 <;> simp [ir_print_good,h1,hl0,hl1]
theorem print_kept_spec (r : Rw) (h : r.ok) : runV TT HH [] n_print_kept [r.enc,.i 0] [] = some (.ret (.tup [(if r.well then r else rw0).enc,.i (if r.well then 0 else 5)]),[]) := by
 rw [eq_print_kept]
 have h1 := RR_of (syntax_Check_spec r h) (by simp) (by simp)
 cases hw : r.well
 ·rw [hw] at h1
  simp [ir_print_kept,h1,rw_fold']
  simp [rw0,Rw.enc]
 ·rw [hw] at h1
  simp [ir_print_kept,h1,rw_fold']
theorem print_Raw_spec (sig : List Dc) (hl : sig.length ≤ maxLen) (hs : ∀ d ∈ sig,d.ok) (t : Tm) (ht : t.ok) : runV TT HH [] n_print_Raw [.sl false (encL sig),.sl false [],.i 0,t.enc] [] = some (.ret (if sigOK sig && t.proper then .tup [(if showC sig t = 0 then rawT sig t else rw0).enc,.i (showC sig t)] else .tup [rw0.enc,.i 2]),[]) := by
 rw [eq_print_Raw]
 have h1 := RR_of (print_good_spec sig hl hs t ht) (by simp) (by simp)
 cases hg : sigOK sig && t.proper
 ·rw [hg] at h1
  simp [ir_print_Raw,h1,rw0,Rw.enc,tm_fold']
 ·rw [hg] at h1
  rw [Bool.and_eq_true] at hg
  obtain ⟨hok,hp⟩ := hg
  have h2 := fun bars => print_printer_scoped_spec sig hl hs hok (.var [.i t.op,.i t.hd,.i t.n,.sl false (encL t.args)]) (.var [.i 0,.s ByteArray.empty,.sl true []]) t ht hp bars
  rw [worst_eq sig t hp] at h2
  unfold showC
  simp only [PP] at h2
  cases c1 : (t.nds 0).all (scN sig)
  ·simp [c1] at h2
   simp [ir_print_Raw,h1,h2,rw0,Rw.enc,tm_fold']
  ·cases c2 : (t.nds 0).all (fuN sig)
   ·simp [c1,c2] at h2
    simp [ir_print_Raw,h1,h2,rw0,Rw.enc,tm_fold']
   ·simp [c1,c2] at h2
    have hc := top_RC ht hp c1 c2
    have h3 : ∀ a0 a1,RR TT HH [0] n_print_printer_raw [.ptr 2 0,t.enc,.i 0] [a0,a1,.var [.sl false (encL sig),.sl false [],.i 0]] = some (.ret (.tup [(rawT sig t).enc,.i 0]),[a0,a1,.var [.sl false (encL sig),.sl false [],.i 0]]) := fun a0 a1 => by
     rw [RR_open (by simp) (by simp)]
     exact print_raw_spec sig hl hs hok 40 t 0 hc 2 _ [0] rfl (by simp)
    have h4 := RR_of (print_kept_spec (rawT sig t) (rawF_ok hok 40 t 0 hc)) (by simp) (by simp)
    cases hw : (rawT sig t).well
    ·rw [hw] at h4
     simp at h4
     simp [ir_print_Raw,h1,h2,h3,h4,tm_fold']
     simp [rw0,Rw.enc]
    ·rw [hw] at h4
     simp at h4
     simp [ir_print_Raw,h1,h2,h3,h4,tm_fold',rw_fold']
def showS (sig : List Dc) (t : Tm) : ByteArray := if showC sig t = 0 then (rawT sig t).text else ByteArray.empty
theorem showC_well {sig : List Dc} {t : Tm} (h : showC sig t = 0) : (rawT sig t).well = true := by
 unfold showC at h
 repeat' split at h
 all_goals first | (cases h; done) | (rename_i hw; simpa using hw)
theorem showC_RC {sig : List Dc} {t : Tm} (ht : t.ok) (hp : t.proper = true) (h : showC sig t = 0) : RC sig 40 t 0 := by
 unfold showC at h
 split at h
 ·cases h
 ·split at h
  ·cases h
  ·rename_i a b
   exact top_RC ht hp (by simpa using a) (by simpa using b)
theorem print_Text_spec (sig : List Dc) (hl : sig.length ≤ maxLen) (hs : ∀ d ∈ sig,d.ok) (t : Tm) (ht : t.ok) : runV TT HH [] n_print_Text [.sl false (encL sig),.sl true [],.i 0,t.enc] [] = some (.ret (if sigOK sig && t.proper then .tup [.s (showS sig t),.i (showC sig t)] else .tup [.s ByteArray.empty,.i 2]),[]) := by
 rw [eq_print_Text]
 have h1 := RR_of (print_Raw_spec sig hl hs t ht) (by simp) (by simp)
 cases hg : sigOK sig && t.proper
 ·rw [hg] at h1
  simp [rw0,Rw.enc] at h1
  simp [ir_print_Text,h1,tm_fold']
 ·rw [hg] at h1
  rw [Bool.and_eq_true] at hg
  obtain ⟨hok,hp⟩ := hg
  unfold showS
  by_cases c : showC sig t = 0
  ·have hw := showC_well c
   have hr := rawF_ok hok 40 t 0 (showC_RC ht hp c)
   have h2 := RR_of (syntax_Text_spec (rawT sig t) hr) (by simp [hw]) (by simp)
   rw [hw] at h2
   simp [c] at h1 h2 ⊢
   simp [ir_print_Text,h1,h2,tm_fold',rw_fold']
  ·simp [c] at h1 ⊢
   simp [ir_print_Text,h1,c,tm_fold']
theorem load_Show_spec (sig : List Dc) (hl : sig.length ≤ maxLen) (hs : ∀ d ∈ sig,d.ok) (t : Tm) (ht : t.ok) : runV TT HH [] n_load_Show [.sl false (encL sig),t.enc] [] = some (.ret (if sigOK sig && t.proper then .tup [.s (showS sig t),.i (showC sig t)] else .tup [.s ByteArray.empty,.i 2]),[]) := by
 rw [eq_load_Show]
 have h1 := RR_of (print_Text_spec sig hl hs t ht) (by simp) (by simp)
 cases hg : sigOK sig && t.proper <;> rw [hg] at h1 <;> simp at h1 <;> simp [ir_load_Show,h1,tm_fold']
theorem ref07_Printer_Raw_spec (sig : List Dc) (hl : sig.length ≤ maxLen) (hs : ∀ d ∈ sig,d.ok) (hok : sigOK sig = true) (t : Tm) (ht : t.ok) (hp : t.proper = true) : runV TT HH [] n_ref07_Printer_Raw [RP sig,.i 0,t.enc] [] = some (.ret (.tup [(if showC sig t = 0 then rawT sig t else rw0).enc,.i (showC sig t)]),[]) := by
 rw [eq_ref07_Printer_Raw]
 have h1 := RR_of (ref07_Printer_scoped_spec sig hl t ht hp) (by simp [RP]) (by simp)
 simp only [RP] at h1
 unfold showC
 cases c1 : (t.nds 0).all (scN sig)
 ·rw [c1] at h1
  simp [ir_ref07_Printer_Raw,RP,h1,rw0,Rw.enc,tm_fold']
 ·rw [c1] at h1
  have h2 := RR_of (ref07_Printer_full_spec sig t ht 0 (fun y hy h4 h5 => by
   have h6 := List.all_eq_true.1 c1 y hy
   have h7 := shape4 (formed_nd (proper_formed hp) (by omega) hy).1 h4
   simp [scN,h4,h5] at h6
   exact ⟨h7.2.2.1,h6⟩)) (by simp [RP]) (by simp)
  simp only [RP] at h2
  cases c2 : (t.nds 0).all (fuN sig)
  ·rw [c2] at h2
   simp [ir_ref07_Printer_Raw,RP,h1,h2,rw0,Rw.enc,tm_fold']
  ·rw [c2] at h2
   have hc := top_RC ht hp c1 c2
   have h3 := RR_of (ref07_Printer_raw_spec sig hl hs hok 40 t 0 hc) (by simp [RP]) (by simp)
   have h4 := RR_of (ref02_Well_spec (rawT sig t) (rawF_ok hok 40 t 0 hc)) (by simp) (by simp)
   simp only [RP] at h3
   rw [show rawF sig (vn sig) 40 t 0 = rawT sig t from rfl] at h3
   cases hw : (rawT sig t).well
   ·rw [hw] at h4
    simp [ir_ref07_Printer_Raw,RP,h1,h2,h3,h4,tm_fold',rw_fold']
    simp [rw0,Rw.enc]
   ·rw [hw] at h4
    simp [ir_ref07_Printer_Raw,RP,h1,h2,h3,h4,tm_fold',rw_fold']
theorem ref07_Printer_Text_spec (sig : List Dc) (hl : sig.length ≤ maxLen) (hs : ∀ d ∈ sig,d.ok) (hok : sigOK sig = true) (t : Tm) (ht : t.ok) (hp : t.proper = true) : runV TT HH [] n_ref07_Printer_Text [.agg [.sl false (encL sig),.sl true [],.sl true []],.i 0,t.enc] [] = some (.ret (.tup [.s (showS sig t),.i (showC sig t)]),[]) := by
 rw [eq_ref07_Printer_Text]
 have h1 := RR_of (ref07_Printer_Raw_spec sig hl hs hok t ht hp) (by simp [RP]) (by simp)
 simp only [RP] at h1
 unfold showS
 by_cases c : showC sig t = 0
 ·have hw := showC_well c
  have hr := rawF_ok hok 40 t 0 (showC_RC ht hp c)
  simp only [Rw.well,Bool.and_eq_true,decide_eq_true_eq] at hw
  have h2 := RR_of (ref02_Text_spec (rawT sig t) hr 1 hw.2 hw.1) (by simp) (by simp)
  simp [c] at h1 ⊢
  simp [ir_ref07_Printer_Text,h1,h2,tm_fold',rw_fold']
 ·simp [c] at h1 ⊢
  simp [ir_ref07_Printer_Text,h1,c,tm_fold']
theorem ref11_Show_spec (sig : List Dc) (hl : sig.length ≤ maxLen) (hs : ∀ d ∈ sig,d.ok) (hok : sigOK sig = true) (t : Tm) (ht : t.ok) (hp : t.proper = true) : runV TT HH [] n_ref11_Show [.sl false (encL sig),t.enc] [] = some (.ret (.tup [.s (showS sig t),.i (showC sig t)]),[]) := by
 rw [eq_ref11_Show]
 have h1 := RR_of (ref07_Printer_Text_spec sig hl hs hok t ht hp) (by simp) (by simp)
 simp [ir_ref11_Show,h1,tm_fold']
end Go.Ev
