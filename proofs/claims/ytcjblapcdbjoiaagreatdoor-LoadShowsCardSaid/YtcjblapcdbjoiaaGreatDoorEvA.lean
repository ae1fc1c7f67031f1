/- A pure interpreter for the loaded code of a seat's functions: values, store, operations and code in a compact form; no condition, no statement of the seat is proved here. -/
import GoSem.Core.Code
import GoSem.Dispatch
import Derived.Calls
import Derived.Laws.Sem
import Derived.Laws.CopyRow
import Derived.Laws.Cells
import Derived.Laws.Entries
import Derived.ChangeKeysEq
set_option linter.unnecessarySimpa false
set_option linter.unusedVariables false
set_option linter.unusedSimpArgs false
set_option linter.unusedSectionVars false
namespace Go.Ev
noncomputable section
inductive PV where
 | k (v : Value)
 | ptr (id off : Nat)
 | pa (id ver i off : Nat)
 | pe (cs : List PV) (off : Nat)
 | sl (tight : Bool) (es : List (List PV))
 | ow (id n : Nat) (es : List (List PV))
 | rs (id ver off len : Nat)
 | agg (cs : List PV)
 | tup (vs : List PV)
 | fn (f : Fn) (cap : List PV)
 | yld (id : Nat)
 | bm (f : FuncId) (fs : List PV)
 | map (id : Nat)
 | iface (t : TypeId) (v : PV)
 deriving Inhabited
inductive Opd where
 | t (n : Nat)
 | c (v : PV)
 deriving Inhabited
inductive Tgt where
 | f (n : FuncId)
 | v (x : Opd)
 | m (x : Opd) (tab : List (TypeId × FuncId))
 deriving Inhabited
inductive IOp where
 | mov (x : Opd)
 | pick (c a b : Opd)
 | alloc (zero : List PV)
 | box (n : Nat) (x : Opd)
 | build (zero : List PV) (parts : List (Nat × Nat × Opd))
 | bslice (esz len : Nat) (zero : List PV) (parts : List (Nat × Opd))
 | bslm (esz len : Nat) (zero : List PV) (parts : List (Nat × Opd))
 | load (n : Option Nat) (a : Opd)
 | store (n : Nat) (a x : Opd)
 | nilc (x : Opd)
 | bin (op : BinOp) (x y : Opd)
 | beq (neg : Bool) (x y : Opd)
 | stq (kd : List Bool) (neg : Bool) (x y : Opd)
 | not (x : Opd)
 | neg (x : Opd)
 | conv (k : IntKind) (x : Opd)
 | strc (x : Opd)
 | miface (t : TypeId) (x : Opd)
 | mfunc (f : Fn) (cap : List Opd)
 | mbm (f : FuncId) (fs : List Opd)
 | isnil (neg : Bool) (x : Opd)
 | slnil (neg : Bool) (x : Opd)
 | mmap
 | mslice (esz : Nat) (zero : List PV) (l : Opd)
 | slice (esz : Nat) (x : Opd) (lo hi mx : Option Opd)
 | faddr (off : Nat) (x : Opd)
 | fld (off : Nat) (n : Option Nat) (x : Opd)
 | iaddr (arr : Option Nat) (esz : Nat) (x i : Opd)
 | idx (x i : Opd)
 | lookup (str : Bool) (zero : PV) (m key : Opd) (ok : Bool)
 | mupd (str : Bool) (m key v : Opd)
 | lookup2 (kd : List Bool) (zero : PV) (m key : Opd) (ok : Bool)
 | mupd2 (kd : List Bool) (m key v : Opd)
 | del (str : Bool) (m key : Opd)
 | tas (t : TypeId) (zero : PV) (ok : Bool) (x : Opd)
 | extr (i : Nat) (x : Opd)
 | call (f : Tgt) (args : List Opd)
 | callq (f : Tgt) (args : List Opd)
 | callg (f : Tgt) (args : List Opd)
 | callm (av : List Nat) (f : Tgt) (args : List Opd)
 | app (esz : Nat) (x y : Opd)
 | appz (esz : Nat) (x y : Opd)
 | appo (esz : Nat) (x y : Opd)
 | appq (esz : Nat) (x y : Opd)
 | appx (esz : Nat) (x y : Opd)
 | apps (x y : Opd)
 | allocb (T E : Nat)
 | appm (av : List Nat) (esz : Nat) (x y : Opd)
 | loadb (m : Nat) (n : Option Nat) (a : Opd)
 | cap (x : Opd)
 | appr (esz : Nat) (zero : List PV) (x l : Opd)
 | storeb (b n : Nat) (a x : Opd)
 | storem (av : List Nat) (n : Nat) (a x : Opd)
 | len (str : Bool) (x : Opd)
 | mm (isMax : Bool) (x y : Opd)
 | dfr (f : FuncId) (args : List Opd)
 | panic (x : Opd)
 | recover
 deriving Inhabited
structure IOper where
 dst : Option Nat
 op : IOp
 guard : Option (Nat × Bool)
 deriving Inhabited
inductive Ps where
 | own (s esz : Nat)
 | ownAt (s off esz : Nat)
 | mut (s : Nat)
 | shutp (s : Nat)
 | com (s off : Nat)
 | frz (s : Nat)
 deriving Inhabited
inductive IC where
 | skip
 | stuck
 | seq (a b : IC)
 | reg (draw : Option (List (Nat × Option Nat))) (ops : List IOper) (keep : List Nat)
 | ps (l : List Ps) (c : IC)
 | psa (c : IC) (l : List Ps)
 | cond (c : Opd) (a b : IC)
 | block (id : Nat) (a : IC)
 | loop (a : IC)
 | cut (a : IC) (keep : List Nat)
 | rfunc (f : Opd) (ps keep : List Nat) (asg body : IC)
 | dfr (pre : List IOper) (keep : List Nat) (f : Tgt) (args : List Opd) (rest : IC)
 | exit (id : Nat) (keep : List Nat)
 | ret (keep : List Nat)
 deriving Inhabited
inductive ResV where
 | t (s : Nat)
 | cell (s : Nat) (n : Option Nat)
 deriving Inhabited
structure IF where
 np : Nat
 body : IC
 res : List ResV
 mode : Nat
 deriving Inhabited
inductive Ob where
 | var (cs : List PV)
 | tok (esz n : Nat)
 | arr (ver esz : Nat) (es : List (List PV))
 | mp (m : List (Value × PV))
 | loop (env : List (Nat × PV)) (ps : List Nat) (asg body : IC) (st : Nat) (pend : Option (Option Nat))
 | dead
 | pt (ver esz : Nat) (es : List (List PV)) (z : List PV)
 | bld (T : Nat) (used : Bool) (x : PV) (j : Nat)
 | barr (T ver : Nat) (s : ByteArray)
 deriving Inhabited
abbrev Env := List (Nat × PV)
abbrev Sto := List Ob
abbrev PV.i (n : Int) : PV := .k (.int .i64 n)
abbrev PV.b (b : Bool) : PV := .k (.bool b)
abbrev PV.s (x : ByteArray) : PV := .k (.string x)
def look : Env → Nat → Option PV
 | [],_ => none
 | (s,v) :: r,n => if s = n then some v else look r n
def ev (env : Env) : Opd → Option PV
 | .t n => look env n
 | .c v => some v
def evs (env : Env) : List Opd → Option (List PV)
 | [] => some []
 | x :: r => (ev env x).bind fun v => (evs env r).bind fun vs => some (v :: vs)
def evp (env : Env) : List (Nat × Opd) → Option (List (Nat × PV))
 | [] => some []
 | (i,x) :: r => (ev env x).bind fun v => (evp env r).bind fun vs => some ((i,v) :: vs)
def evq (env : Env) : List (Nat × Nat × Opd) → Option (List (Nat × Nat × PV))
 | [] => some []
 | (i,n,x) :: r => (ev env x).bind fun v => (evq env r).bind fun vs => some ((i,n,v) :: vs)
def evo (env : Env) : Option Opd → Option (Option PV)
 | none => some none
 | some x => (ev env x).bind fun v => some (some v)
def cells : PV → List PV
 | .agg cs => cs
 | v => [v]
def norm : PV → PV
 | .sl _ es => .sl false es
 | .ow _ _ es => .sl false es
 | .agg cs => .agg (normAll cs)
 | .tup cs => .tup (normAll cs)
 | .iface t v => .iface t (norm v)
 | v => v
where normAll : List PV → List PV
 | [] => []
 | v :: r => norm v :: normAll r
def below (n : Nat) : PV → Bool
 | .k _ => true
 | .ptr id _ => id < n
 | .pa id _ _ _ => id < n
 | .pe cs _ => belowAll cs
 | .sl _ es => belowEs es
 | .ow id _ es => id < n && belowEs es
 | .rs id _ _ _ => id < n
 | .agg cs => belowAll cs
 | .tup cs => belowAll cs
 | .fn _ cap => belowAll cap
 | .yld id => id < n
 | .bm _ fs => belowAll fs
 | .map id => id < n
 | .iface _ v => below n v
where
 belowAll : List PV → Bool
  | [] => true
  | v :: r => below n v && belowAll r
 belowEs : List (List PV) → Bool
  | [] => true
  | e :: r => belowAll e && belowEs r
def okc : PV → Bool
 | .tup _ => false
 | .k (.agg _) => false
 | .k (.tuple _) => false
 | _ => true
def mkv (n : Option Nat) (cs : List PV) : Option PV :=
 match n with
 | none => match cs with | [v] => some v | _ => none
 | some m => if cs.length = m then some (.agg cs) else none
def takeAt (cs : List PV) (off n : Nat) : Option (List PV) :=
 if off + n ≤ cs.length then some ((cs.drop off).take n) else none
def putAt (cs : List PV) (off : Nat) (xs : List PV) : Option (List PV) :=
 if off + xs.length ≤ cs.length then some (cs.take off ++ xs ++ cs.drop (off + xs.length)) else none
def fillP (acc : List PV) : List (Nat × Nat × PV) → Option (List PV)
 | [] => some acc
 | (off,sz,v) :: r => if (cells v).length = sz ∧ okc v then (putAt acc off (cells (norm v))).bind fun a => fillP a r else none
def LIM : Nat := 2 ^ 32
def YB : Nat := 1000000
def elemsOf (σ : Sto) : PV → Option (List (List PV))
 | .sl _ es => some es
 | .ow _ _ es => some es
 | .k (.slice _ 0 _) => some []
 | .rs id ver off len => match σ[id]? with
  | some (.arr v _ es) => if v = ver ∧ off + len ≤ es.length then some ((es.drop off).take len) else none
  | _ => none
 | _ => none
inductive OpR where
 | val (v : PV) (σ : Sto)
 | call (f : FuncId) (args : List PV) (σ : Sto)
 | pan (v : PV) (σ : Sto)
 | dfr (f : FuncId) (args : List PV) (σ : Sto)
 | rcv (σ : Sto)
 deriving Inhabited
def binE (op : BinOp) (x y : PV) : Option PV :=
 match x,y with
 | .k (.int j a),.k (.int l b) =>
  if j = l then match op with
   | .add => some (.k (.int j (j.wrap (a + b))))
   | .sub => some (.k (.int j (j.wrap (a - b))))
   | .mul => some (.k (.int j (j.wrap (a * b))))
   | .eql => some (.b (decide (a = b)))
   | .neq => some (.b (!decide (a = b)))
   | .lss => some (.b (decide (a < b)))
   | .leq => some (.b (decide (a ≤ b)))
   | .gtr => some (.b (decide (b < a)))
   | .geq => some (.b (decide (b ≤ a)))
   | .quo => if b = 0 then none else some (.k (.int j (j.wrap (a.tdiv b))))
   | .rem => if b = 0 then none else some (.k (.int j (a.tmod b)))
   | .and => some (.k (.int j (j.wrap (BitVec.ofInt j.bits a &&& BitVec.ofInt j.bits b).toNat)))
   | .or => some (.k (.int j (j.wrap (BitVec.ofInt j.bits a ||| BitVec.ofInt j.bits b).toNat)))
   | .xor => some (.k (.int j (j.wrap (BitVec.ofInt j.bits a ^^^ BitVec.ofInt j.bits b).toNat)))
   | .shl => if b < 0 then none else some (.k (.int j (j.wrap (a * 2 ^ (min b.toNat j.bits)))))
   | .shr => if b < 0 then none else some (.k (.int j (a.fdiv (2 ^ (min b.toNat j.bits)))))
   | _ => none
  else match op with
   | .shl => if b < 0 then none else some (.k (.int j (j.wrap (a * 2 ^ (min b.toNat j.bits)))))
   | .shr => if b < 0 then none else some (.k (.int j (a.fdiv (2 ^ (min b.toNat j.bits)))))
   | _ => none
 | .k (.string a),.k (.string b) => match op with
  | .eql => some (.b (a.toList == b.toList))
  | .neq => some (.b (!(a.toList == b.toList)))
  | .add => if a.size + b.size ≤ LIM then some (.s (a ++ b)) else none
  | _ => none
 | _,_ => none
def unE (x : PV) : Option PV :=
 match x with
 | .k (.bool a) => some (.b (!a))
 | _ => none
def allLen (esz : Nat) : List (List PV) → Bool
 | [] => true
 | e :: r => decide (e.length = esz) && allLen esz r
def sliceE (σ : Sto) (esz : Nat) (x : PV) (lo hi mx : Option PV) : Option PV :=
 match x,lo.getD (.i 0) with
 | .k (.string s),.k (.int .i64 l) =>
  match mx,hi.getD (.i s.size) with
  | none,.k (.int .i64 h) => if 0 ≤ l ∧ l ≤ h ∧ h ≤ s.size ∧ esz = 0 then some (.s (s.extract l.toNat h.toNat)) else none
  | _,_ => none
 | .sl t es,.k (.int .i64 l) =>
  match hi.getD (.i es.length) with
  | .k (.int .i64 h) =>
   if 0 ≤ l ∧ l ≤ h ∧ h ≤ es.length ∧ allLen esz es ∧ 0 < esz then
    match mx with
    | none => some (.sl (t && decide (h.toNat = es.length)) ((es.drop l.toNat).take (h.toNat - l.toNat)))
    | some (.k (.int .i64 m)) => if m = h ∧ hi.isSome then some (.sl true ((es.drop l.toNat).take (h.toNat - l.toNat))) else none
    | _ => none
   else none
  | _ => none
 | .ow id n es,.k (.int .i64 l) =>
  match hi.getD (.i es.length) with
  | .k (.int .i64 h) =>
   if 0 ≤ l ∧ l ≤ h ∧ h ≤ es.length ∧ allLen esz es ∧ 0 < esz then
    match mx,σ[id]? with
    | none,some (.tok k _) => if h.toNat = es.length ∧ k = esz then some (.ow id n (es.drop l.toNat)) else some (.sl false ((es.drop l.toNat).take (h.toNat - l.toNat)))
    | some (.k (.int .i64 m)),_ => if m = h ∧ hi.isSome then some (.sl true ((es.drop l.toNat).take (h.toNat - l.toNat))) else none
    | _,_ => none
   else none
  | _ => none
 | .rs id ver off len,.k (.int .i64 l) =>
  match hi.getD (.i len),mx,σ[id]? with
  | .k (.int .i64 h),none,some (.arr _ k _) => if 0 ≤ l ∧ l ≤ h ∧ h ≤ len ∧ k = esz ∧ 0 < esz then some (.rs id ver (off + l.toNat) (h.toNat - l.toNat)) else none
  | _,_,_ => none
 | _,_ => none
def lenE (str : Bool) : PV → Option Nat
 | .sl _ es => if str then none else some es.length
 | .ow _ _ es => if str then none else some es.length
 | .rs _ _ _ len => if str then none else some len
 | .k (.string s) => if str then some s.size else none
 | _ => none
def loadE (σ : Sto) (n : Option Nat) (a : PV) : Option PV :=
 match a with
 | .ptr id off => match σ[id]? with
  | some (.var cs) => (takeAt cs off (n.getD 1)).bind (mkv n)
  | _ => none
 | .pa id ver i off => match σ[id]? with
  | some (.arr v _ es) => if v = ver then (es[i]?).bind fun e => (takeAt e off (n.getD 1)).bind (mkv n) else none
  | _ => none
 | .pe cs off => (takeAt cs off (n.getD 1)).bind (mkv n)
 | _ => none
def barsOk (bars : List Nat) (id : Nat) (x : PV) : Bool :=
 match bars with
 | [] => true
 | b :: r => (decide (b ≤ id) || below b x) && barsOk r id x
def storeE (bars : List Nat) (σ : Sto) (n : Nat) (a x : PV) : Option Sto :=
 if (cells x).length = n ∧ okc x then
  match a with
  | .ptr id off => match σ[id]? with
   | some (.var cs) => if barsOk bars id x then (putAt cs off (cells x)).bind fun cs' => some (σ.set id (.var cs')) else none
   | _ => none
  | .pa id ver i off => match σ[id]? with
   | some (.arr v k es) => if v = ver ∧ below 0 (norm x) then (es[i]?).bind fun e => (putAt e off (cells (norm x))).bind fun e' => some (σ.set id (.arr v k (es.set i e'))) else none
   | some (.pt v k es z) => if v = ver ∧ i = es.length ∧ below 0 (norm x) then (putAt z off (cells (norm x))).bind fun z' => some (σ.set id (.pt v k es z')) else none
   | _ => none
  | _ => none
 else none
def strElems : PV → Option (List (List PV))
 | .k (.string s) => some (s.data.toList.map fun b => [.k (.int .u8 b.toNat)])
 | _ => none
def isTight : PV → Bool
 | .sl true _ => true
 | _ => false
def appE (esz : Nat) (σ : Sto) (x : PV) (ys : List (List PV)) : Option (PV × Sto) :=
 match x with
 | .sl t es =>
  if ys.length = 0 then some (x,σ)
  else if t ∧ es.length + ys.length ≤ LIM then some (.sl false (es ++ ys),σ)
  else none
 | .ow id n es =>
  match σ[id]? with
  | some (.tok k m) => if k = esz ∧ m = n ∧ 0 < ys.length ∧ es.length + ys.length ≤ LIM then some (.ow id (n + ys.length) (es ++ ys),σ.set id (.tok k (n + ys.length))) else if ys.length = 0 then some (x,σ) else none
  | _ => none
 | .rs id ver off len =>
  match σ[id]? with
  | some (.arr v k es) => if k = esz ∧ v = ver ∧ off = 0 ∧ 0 < ys.length ∧ len ≤ es.length ∧ len + ys.length ≤ LIM ∧ below.belowEs 0 ys = true then some (.rs id (ver + 1) 0 (len + ys.length),σ.set id (.arr (ver + 1) k (es.take len ++ ys))) else if ys.length = 0 then some (x,σ) else none
  | _ => none
 | _ => none
def keyEq (str : Bool) (a b : Value) : Option Bool :=
 match a,b with
 | .int j x,.int k y => if str = false ∧ j = k then some (decide (x = y)) else none
 | .string x,.string y => if str = true then some (decide (x = y)) else none
 | _,_ => none
def mget (str : Bool) (m : List (Value × PV)) (key : Value) : Option (Option PV) :=
 match m with
 | [] => some none
 | (k,v) :: r => match keyEq str k key with
  | some true => some (some v)
  | some false => mget str r key
  | none => none
def mput (str : Bool) (m : List (Value × PV)) (key : Value) (x : PV) : Option (List (Value × PV)) :=
 match m with
 | [] => match keyEq str key key with
  | some _ => some [(key,x)]
  | none => none
 | (k,v) :: r => match keyEq str k key with
  | some true => some ((k,x) :: r)
  | some false => (mput str r key x).bind fun r' => some ((k,v) :: r')
  | none => none
def mdel (str : Bool) (m : List (Value × PV)) (key : Value) : Option (List (Value × PV)) :=
 match m with
 | [] => some []
 | (k,v) :: r => match keyEq str k key with
  | some true => some r
  | some false => (mdel str r key).bind fun r' => some ((k,v) :: r')
  | none => none
def keyA : List Bool → List PV → Option (List Value)
 | [],[] => some []
 | false :: kd,.k (.int j x) :: r => (keyA kd r).bind fun l => some (.int j x :: l)
 | true :: kd,.k (.string x) :: r => (keyA kd r).bind fun l => some (.string x :: l)
 | _,_ => none
def eqS : List Value → List Value → Option Bool
 | [],[] => some true
 | .int j x :: r,.int k y :: s => if j = k then (eqS r s).bind fun b => some (decide (x = y) && b) else none
 | .string x :: r,.string y :: s => (eqS r s).bind fun b => some (decide (x = y) && b)
 | _,_ => none
def mget2 (m : List (Value × PV)) (key : List Value) : Option (Option PV) :=
 match m with
 | [] => some none
 | (.agg k,v) :: r => match eqS key k.toList with
  | some true => some (some v)
  | some false => mget2 r key
  | none => none
 | _ => none
def mput2 (m : List (Value × PV)) (key : List Value) (x : PV) : Option (List (Value × PV)) :=
 match m with
 | [] => some [(.agg key.toArray,x)]
 | (.agg k,v) :: r => match eqS key k.toList with
  | some true => some ((.agg key.toArray,x) :: r)
  | some false => (mput2 r key x).bind fun r' => some ((.agg k,v) :: r')
  | none => none
 | _ => none
def callE (env : Env) (σ : Sto) (f : Tgt) (args : List PV) : Option OpR :=
 match f with
 | .f n => some (.call n args σ)
 | .v x => match ev env x with
  | some (.fn (.func n) cap) => if n < YB then some (.call n (args ++ cap) σ) else none
  | some (.yld l) => some (.call (YB + l) args σ)
  | some (.bm n fs) => if n < YB then some (.call n (fs ++ args) σ) else none
  | _ => none
 | .m x tab => match ev env x with
  | some (.iface t v) => (tab.lookup t).bind fun n => if n < YB then some (.call n (v :: args) σ) else none
  | _ => none
def bslE (esz : Nat) (acc : List (List PV)) : List (Nat × PV) → Option (List (List PV))
 | [] => some acc
 | (i,v) :: r => if i < acc.length ∧ (cells v).length = esz ∧ okc v ∧ below 0 (norm v) then bslE esz (acc.set i (cells (norm v))) r else none
def appzE (esz : Nat) (σ : Sto) (v : PV) (ys : List (List PV)) : Option OpR :=
 match v,ys with
 | .ow id n es,[z] => match σ[id]? with
  | some (.tok k m) => if k = esz ∧ m = n ∧ es.length + 1 ≤ LIM ∧ allLen esz es = true ∧ allLen esz [z] = true ∧ below.belowEs 0 es = true ∧ below.belowAll 0 z = true then some (.val (.rs id (n + 1) 0 (es.length + 1)) (σ.set id (.pt (n + 1) esz es z))) else none
  | _ => none
 | _,_ => none
def top : PV → Option Nat
 | .ptr id _ => some id
 | .pa id _ _ _ => some id
 | .ow id _ _ => some id
 | .rs id _ _ _ => some id
 | .map id => some id
 | _ => none
def sameTop (env : Env) (b : Nat) (p : PV) : Bool := match look env b with
 | some u => top u == top p
 | none => false
def apartTop (env : Env) : List Nat → PV → Bool
 | [],_ => true
 | m :: r,p => (match look env m with
  | some u => top u != top p
  | none => false) && apartTop env r p
def appmE (esz : Nat) (σ : Sto) (v u : PV) : Option (PV × Sto) :=
 match v,u with
 | .ow id n es,.sl _ ys => if allLen esz es = true ∧ allLen esz ys = true then appE esz σ (.ow id n es) ys else none
 | .sl t es,.sl _ ys => if allLen esz es = true ∧ allLen esz ys = true then appE esz σ (.sl t es) ys else none
 | _,_ => none
def opE (bars : List Nat) (env : Env) (σ : Sto) : IOp → Option OpR
 | .mov x => (ev env x).bind fun v => some (.val v σ)
 | .pick c a b => match ev env c with
  | some (.k (.bool true)) => (ev env a).bind fun v => some (.val v σ)
  | some (.k (.bool false)) => (ev env b).bind fun v => some (.val v σ)
  | _ => none
 | .alloc zero => some (.val (.ptr σ.length 0) (σ ++ [.var zero]))
 | .box n x => (ev env x).bind fun v => if (cells v).length = n ∧ okc v then some (.val (.ptr σ.length 0) (σ ++ [.var (cells v)])) else none
 | .build zero parts => (evq env parts).bind fun ps => (fillP zero ps).bind fun cs => some (.val (.agg cs) σ)
 | .bslice esz len zero parts => (evp env parts).bind fun ps =>
   if zero.length = esz then (bslE esz (List.replicate len zero) ps).bind fun es => some (.val (.sl true es) σ) else none
 | .bslm esz len zero parts => (evp env parts).bind fun ps =>
   if zero.length = esz then (bslE esz (List.replicate len zero) ps).bind fun es => some (.val (.rs σ.length 0 0 len) (σ ++ [.arr 0 esz es])) else none
 | .load n a => (ev env a).bind fun p => (loadE σ n p).bind fun v => some (.val v σ)
 | .store n a x => (ev env a).bind fun p => (ev env x).bind fun v => (storeE bars σ n p v).bind fun σ' => some (.val (.tup []) σ')
 | .nilc x => match ev env x with
  | some (.k _) => none
  | some (.fn (.func f) cap) => some (.val (.fn (.func f) cap) σ)
  | some (.fn _ _) => none
  | some v => some (.val v σ)
  | none => none
 | .bin op x y => (ev env x).bind fun a => (ev env y).bind fun b => (binE op a b).bind fun v => some (.val v σ)
 | .beq neg x y => match ev env x,ev env y with
  | some (.k (.bool a)),some (.k (.bool b)) => some (.val (.b (if neg then !(a == b) else a == b)) σ)
  | _,_ => none
 | .stq kd neg x y => match ev env x,ev env y with
  | some (.agg a),some (.agg b) => (keyA kd a).bind fun ka => (keyA kd b).bind fun kb => (eqS ka kb).bind fun c => some (.val (.b (c != neg)) σ)
  | _,_ => none
 | .not x => (ev env x).bind fun a => (unE a).bind fun v => some (.val v σ)
 | .neg x => match ev env x with
  | some (.k (.int j n)) => some (.val (.k (.int j (j.wrap (-n)))) σ)
  | _ => none
 | .conv j x => match ev env x with
  | some (.k (.int _ n)) => some (.val (.k (.int j (j.wrap n))) σ)
  | _ => none
 | .strc x => match ev env x with
  | some (.k (.int _ n)) => some (.val (.s (Utf8.encode n)) σ)
  | _ => none
 | .miface t x => (ev env x).bind fun v => some (.val (.iface t (norm v)) σ)
 | .mfunc f cap => (evs env cap).bind fun vs => some (.val (.fn f vs) σ)
 | .mbm f fs => (evs env fs).bind fun vs => some (.val (.bm f vs) σ)
 | .isnil neg x => match ev env x with
  | some (.iface _ _) => some (.val (.b neg) σ)
  | some (.k .nilIface) => some (.val (.b (!neg)) σ)
  | _ => none
 | .slnil neg x => match ev env x with
  | some (.k (.slice a _ _)) => some (.val (.b (a.isNone != neg)) σ)
  | some (.sl _ (_ :: _)) => some (.val (.b neg) σ)
  | some (.ow _ _ (_ :: _)) => some (.val (.b neg) σ)
  | _ => none
 | .mmap => some (.val (.map σ.length) (σ ++ [.mp []]))
 | .mslice esz zero l => match ev env l with
  | some (.k (.int .i64 n)) => if 0 ≤ n ∧ n ≤ LIM ∧ zero.length = esz then some (.val (.rs σ.length 0 0 n.toNat) (σ ++ [.arr 0 esz (List.replicate n.toNat zero)])) else none
  | _ => none
 | .slice esz x lo hi mx => (ev env x).bind fun v => (evo env lo).bind fun l => (evo env hi).bind fun h => (evo env mx).bind fun m => (sliceE σ esz v l h m).bind fun r => some (.val r σ)
 | .faddr off x => match ev env x with
  | some (.ptr id o) => some (.val (.ptr id (o + off)) σ)
  | some (.pa id ver i o) => some (.val (.pa id ver i (o + off)) σ)
  | some (.pe cs o) => some (.val (.pe cs (o + off)) σ)
  | _ => none
 | .fld off n x => match ev env x with
  | some (.agg cs) => (takeAt cs off (n.getD 1)).bind fun c => (mkv n c).bind fun v => some (.val v σ)
  | _ => none
 | .iaddr arr esz x i => match ev env x,ev env i with
  | some (.ptr id o),some (.k (.int .i64 n)) => match arr with
   | some len => if 0 ≤ n ∧ n < len then some (.val (.ptr id (o + n.toNat * esz)) σ) else none
   | none => none
  | some (.sl _ es),some (.k (.int .i64 n)) => if 0 ≤ n ∧ arr = none then (es[n.toNat]?).bind fun e => if e.length = esz then some (.val (.pe e 0) σ) else none else none
  | some (.ow _ _ es),some (.k (.int .i64 n)) => if 0 ≤ n ∧ arr = none then (es[n.toNat]?).bind fun e => if e.length = esz then some (.val (.pe e 0) σ) else none else none
  | some (.rs id ver off len),some (.k (.int .i64 n)) => if 0 ≤ n ∧ n < len ∧ arr = none then
    match σ[id]? with
    | some (.arr v k es) => if v = ver ∧ k = esz then some (.val (.pa id ver (off + n.toNat) 0) σ) else none
    | some (.pt v k es _) => if v = ver ∧ k = esz then some (.val (.pa id ver (off + n.toNat) 0) σ) else none
    | _ => none
   else none
  | _,_ => none
 | .idx x i => match ev env x,ev env i with
  | some (.k (.string s)),some (.k (.int _ n)) => if 0 ≤ n then (s[n.toNat]?).bind fun b => some (.val (.k (.int .u8 b.toNat)) σ) else none
  | _,_ => none
 | .lookup str zero m key ok => match ev env m,ev env key with
  | some (.map id),some (.k key) => match σ[id]? with
   | some (.mp l) => (mget str l key).bind fun x => some (.val (if ok then .tup [x.getD zero,.b x.isSome] else x.getD zero) σ)
   | _ => none
  | _,_ => none
 | .mupd str m key v => match ev env m,ev env key,ev env v with
  | some (.map id),some (.k key),some v => match σ[id]? with
   | some (.mp l) => if below 0 (norm v) then (mput str l key (norm v)).bind fun l' => some (.val (.tup []) (σ.set id (.mp l'))) else none
   | _ => none
  | _,_,_ => none
 | .lookup2 kd zero m key ok => match ev env m,ev env key with
  | some (.map id),some (.agg cs) => (keyA kd cs).bind fun ks => match σ[id]? with
   | some (.mp l) => (mget2 l ks).bind fun x => some (.val (if ok then .tup [x.getD zero,.b x.isSome] else x.getD zero) σ)
   | _ => none
  | _,_ => none
 | .mupd2 kd m key v => match ev env m,ev env key,ev env v with
  | some (.map id),some (.agg cs),some v => (keyA kd cs).bind fun ks => match σ[id]? with
   | some (.mp l) => if below 0 (norm v) then (mput2 l ks (norm v)).bind fun l' => some (.val (.tup []) (σ.set id (.mp l'))) else none
   | _ => none
  | _,_,_ => none
 | .del str m key => match ev env m,ev env key with
  | some (.map id),some (.k key) => match σ[id]? with
   | some (.mp l) => (mdel str l key).bind fun l' => some (.val (.tup []) (σ.set id (.mp l')))
   | _ => none
  | _,_ => none
 | .tas t zero ok x => match ev env x with
  | some (.iface u v) => if u = t then some (.val (if ok then .tup [v,.b true] else v) σ) else if ok then some (.val (.tup [zero,.b false]) σ) else none
  | some (.k .nilIface) => if ok then some (.val (.tup [zero,.b false]) σ) else none
  | _ => none
 | .extr i x => match ev env x with
  | some (.tup vs) => (vs[i]?).bind fun v => some (.val v σ)
  | _ => none
 | .call f args => (evs env args).bind fun vs => callE env σ f vs
 | .callq f args => (evs env args).bind fun vs => callE env σ f vs
 | .callg f args => (evs env args).bind fun vs => callE env σ f vs
 | .callm _ f args => (evs env args).bind fun vs => callE env σ f vs
 | .app esz x y => (ev env x).bind fun v => (ev env y).bind fun w => (elemsOf σ v).bind fun xs => (elemsOf σ w).bind fun ys =>
   if allLen esz xs ∧ allLen esz ys then (appE esz σ v ys).bind fun p => some (.val p.1 p.2) else none
 | .appz esz x y => (ev env x).bind fun v => (ev env y).bind fun w => (elemsOf σ w).bind fun ys => appzE esz σ v ys
 | .appo esz x y => match x with
  | .t s => match look env s with
   | some (.sl true []) => (ev env y).bind fun w => (elemsOf σ w).bind fun ys =>
     if allLen esz ys = true then
      if ys.length = 0 then some (.val (.sl true []) σ)
      else if ys.length ≤ LIM then some (.val (.ow σ.length ys.length ys) (σ ++ [.tok esz ys.length])) else none
     else none
   | _ => none
  | .c _ => none
 | .allocb T E => some (.val (.ptr (σ.length + 1) 0) (σ ++ [.barr E 0 ⟨#[]⟩] ++ [.bld T false (.sl true []) σ.length]))
 | .apps x y => (ev env x).bind fun v => (ev env y).bind fun w => (elemsOf σ v).bind fun xs => (strElems w).bind fun ys =>
   if allLen 1 xs = true then (appE 1 σ v ys).bind fun p => some (.val p.1 p.2) else none
 | .appx esz x y => (ev env x).bind fun v => (ev env y).bind fun w => (elemsOf σ v).bind fun xs => (elemsOf σ w).bind fun ys =>
   if allLen esz xs = true ∧ allLen esz ys = true then
    if isTight v = true ∧ 0 < ys.length then
     if xs.length + ys.length ≤ LIM ∧ below.belowEs 0 (xs ++ ys) = true then some (.val (.rs σ.length 1 0 (xs.length + ys.length)) (σ ++ [.arr 1 esz (xs ++ ys)])) else none
    else (appE esz σ v ys).bind fun p => some (.val p.1 p.2)
   else none
 | .appq esz x y => (ev env x).bind fun v => (ev env y).bind fun w => (elemsOf σ w).bind fun ys => match v with
  | .sl t es => if allLen esz es = true ∧ allLen esz ys = true then
    if ys.length = 0 then some (.val (.sl t es) σ)
    else if t = true ∧ es.length + ys.length ≤ LIM then some (.val (.sl false (es ++ ys)) σ) else none
   else none
  | _ => none
 | .appm av esz x y => (ev env x).bind fun v => if apartTop env av v then (ev env y).bind fun u => (appmE esz σ v u).bind fun p => some (.val p.1 p.2) else none
 | .loadb m n a => (ev env a).bind fun p => if sameTop env m p then (loadE σ n p).bind fun v => some (.val v σ) else none
 | .storeb b n a x => (ev env a).bind fun p => if sameTop env b p then (ev env x).bind fun v => (storeE bars σ n p v).bind fun σ' => some (.val (.tup []) σ') else none
 | .storem av n a x => (ev env a).bind fun p => if apartTop env av p then (ev env x).bind fun v => (storeE bars σ n p v).bind fun σ' => some (.val (.tup []) σ') else none
 | .cap x => match ev env x with
  | some (.sl true es) => if es.length < 2 ^ 63 then some (.val (.i es.length) σ) else none
  | _ => none
 | .appr esz zero x l => match ev env x,ev env l with
  | some (.sl true []),some (.k (.int .i64 n)) => if 0 < n ∧ n ≤ LIM ∧ zero.length = esz then some (.val (.rs σ.length 0 0 n.toNat) (σ ++ [.arr 0 esz (List.replicate n.toNat zero)])) else none
  | _,_ => none
 | .len str x => (ev env x).bind fun v => (lenE str v).bind fun n => if n < 2 ^ 63 then some (.val (.i n) σ) else none
 | .mm isMax x y => match ev env x,ev env y with
  | some (.k (.int .i64 a)),some (.k (.int .i64 b)) => some (.val (.i (if isMax then max a b else min a b)) σ)
  | _,_ => none
 | .dfr f args => (evs env args).bind fun vs => some (.dfr f vs σ)
 | .panic x => match ev env x with
  | some (.iface t v) => some (.pan (.iface t v) σ)
  | _ => none
 | .recover => some (.rcv σ)
inductive Ex where
 | norm
 | exit (id : Nat)
 | ret
 | pan (v : PV)
 deriving Inhabited
inductive Out where
 | ret (v : PV)
 | pan (v : PV)
 deriving Inhabited
abbrev Sem' := List Nat → FuncId → List PV → Sto → Option (Out × Sto)
def restrict (keep : List Nat) (env : Env) : Env :=
 match keep with
 | [] => []
 | s :: r => match look env s with
  | some v => (s,v) :: restrict r env
  | none => restrict r env
def wantedE (env : Env) : Option (Nat × Bool) → Option Bool
 | none => some true
 | some (s,b) => match look env s with
  | some (.k (.bool b')) => some (b == b')
  | some (.tup []) => some false
  | _ => none
def putE (env : Env) (dst : Option Nat) (v : PV) : Env :=
 match dst with
 | some d => (d,v) :: env
 | none => env
def IOp.quiet : IOp → Bool
 | .callq .. => true
 | _ => false
def IOp.growq : IOp → Bool
 | .callg .. => true
 | _ => false
def IOp.avs : IOp → List Nat
 | .callm av _ _ => av
 | .storem av _ _ _ => av
 | .appm av _ _ _ => av
 | _ => []
def IOp.bad (o : IOp) (env : Env) (σ σ' : Sto) : Prop := (o.quiet = true ∧ σ' ≠ σ) ∨ (o.growq = true ∧ ¬ ∃ ext,σ' = σ ++ ext) ∨ ∃ n,n ∈ o.avs ∧ ∃ v id,look env n = some v ∧ top v = some id ∧ σ'[id]? ≠ σ[id]?
open Classical in
def evOp1 (calls : Sem') (bars : List Nat) (o : IOper) (env : Env) (σ : Sto) : Option (Ex × Env × Sto) :=
 match wantedE env o.guard with
 | some true =>
  match opE bars env σ o.op with
  | some (.val v σ') => some (.norm,putE env o.dst v,σ')
  | some (.call f args σ') =>
   match calls bars f args σ' with
   | some (.ret v,σ'') => if o.op.bad env σ' σ'' then none else some (.norm,putE env o.dst v,σ'')
   | some (.pan v,σ'') => some (.pan v,env,σ'')
   | none => none
  | some (.pan v σ') => some (.pan v,env,σ')
  | _ => none
 | some false => some (.norm,putE env o.dst (.tup []),σ)
 | none => none
def evOps (calls : Sem') (bars : List Nat) : List IOper → Env → Sto → Option (Ex × Env × Sto)
 | [],env,σ => some (.norm,env,σ)
 | o :: r,env,σ => match evOp1 calls bars o env σ with
  | some (.norm,env',σ') => evOps calls bars r env' σ'
  | r => r
def psE (bars : List Nat) (env : Env) (σ : Sto) : List Ps → Option (Env × Sto)
 | [] => some (env,σ)
 | .own s esz :: r => match look env s with
  | some (.sl true es) => psE bars ((s,.ow σ.length 0 es) :: env) (σ ++ [.tok esz 0]) r
  | some _ => psE bars env σ r
  | none => none
 | .ownAt s off esz :: r => match look env s with
  | some (.ptr id o) => match σ[id]? with
   | some (.var cs) => match cs[o + off]? with
    | some (.sl true es) => if barsOk bars id (.ow σ.length 0 es) then psE bars env (σ.set id (.var (cs.set (o + off) (.ow σ.length 0 es))) ++ [.tok esz 0]) r else none
    | some _ => psE bars env σ r
    | none => none
   | _ => none
  | _ => none
 | .shutp s :: r => match look env s with
  | some v => psE bars ((s,norm v) :: env) σ r
  | none => none
 | .com s off :: r => match look env s with
  | some (.ptr id o) => match σ[id]? with
   | some (.var cs) => match cs[o + off]? with
    | some (.rs j ver of len) => match σ[j]? with
     | some (.pt v k es z) => if v = ver ∧ of = 0 ∧ len = es.length + 1 ∧ barsOk bars id (.ow j (v + 1) (es ++ [z])) then psE bars env ((σ.set j (.tok k (v + 1))).set id (.var (cs.set (o + off) (.ow j (v + 1) (es ++ [z]))))) r else none
     | _ => psE bars env σ r
    | some _ => psE bars env σ r
    | none => none
   | _ => none
  | _ => none
 | .frz s :: r => match look env s with
  | some (.rs id ver off len) => match σ[id]? with
   | some (.arr v k es) => if v = ver ∧ off + len ≤ es.length then psE bars ((s,.sl false ((es.drop off).take len)) :: env) (σ.set id (.tok k (v + 1))) r else none
   | _ => psE bars env σ r
  | some _ => psE bars env σ r
  | none => none
 | .mut _ :: _ => none
def envBelow (n : Nat) : Env → Bool
 | [] => true
 | (_,v) :: r => below n v && envBelow n r
def iter (step : Env × Sto → Option (Ex × Env × Sto)) : Nat → Env × Sto → Option (Ex × Env × Sto)
 | 0,_ => none
 | n + 1,x => match step x with
  | some (.norm,y) => iter step n y
  | r => r
abbrev It := (Env × Sto → Option (Ex × Env × Sto)) → Env × Sto → Option (Ex × Env × Sto)
def endLoopE (st : Nat) (pend : Option (Option Nat)) : Option Ex :=
 match st,pend with
 | 0,none => some .norm
 | 2,some none => some .ret
 | 2,some (some id) => some (.exit id)
 | _,_ => none
def pendE : Ex → Option (Option (Option Nat))
 | .norm => some none
 | .ret => some (some none)
 | .exit id => some (some (some id))
 | .pan _ => none
def putArgs : List Nat → List PV → Env → Env
 | p :: ps,v :: vs,env => putArgs ps vs ((p,norm v) :: env)
 | _,_,env => env
def evC (calls : Sem') (it : It) : List Nat → IC → Env → Sto → Option (Ex × Env × Sto)
 | _,.skip,env,σ => some (.norm,env,σ)
 | _,.stuck,_,_ => none
 | bars,.seq a b,env,σ => match evC calls it bars a env σ with
  | some (.norm,env',σ') => evC calls it bars b env' σ'
  | r => r
 | bars,.reg d ops keep,env,σ => match evOps calls bars ops env σ with
  | some (.norm,env',σ') => some (.norm,restrict keep env',σ')
  | r => if d.isSome then none else r
 | bars,.ps l c,env,σ => match psE bars env σ l with
  | some (env',σ') => evC calls it bars c env' σ'
  | none => none
 | bars,.psa c l,env,σ => match evC calls it bars c env σ with
  | some (.norm,env',σ') => (match psE bars env' σ' l with
   | some (env'',σ'') => some (.norm,env'',σ'')
   | none => none)
  | r => r
 | bars,.cond c a b,env,σ => match ev env c with
  | some (.k (.bool true)) => evC calls it bars a env σ
  | some (.k (.bool false)) => evC calls it bars b env σ
  | _ => none
 | bars,.block id a,env,σ => match evC calls it bars a env σ with
  | some (.exit j,env',σ') => if j = id then some (.norm,env',σ') else some (.exit j,env',σ')
  | r => r
 | bars,.loop a,env,σ => it (fun x => evC calls it bars a x.1 x.2) (env,σ)
 | bars,.cut a keep,env,σ => match evC calls it (σ.length :: bars) a env σ with
  | some (.norm,env',σ') => if envBelow σ.length (restrict keep env') then some (.norm,restrict keep env',σ'.take σ.length) else none
  | some (.exit id,env',σ') => if envBelow σ.length env' then some (.exit id,env',σ'.take σ.length) else some (.exit id,env',σ')
  | some (.ret,env',σ') => if envBelow σ.length env' then some (.ret,env',σ'.take σ.length) else some (.ret,env',σ')
  | r => r
 | bars,.rfunc f ps keep asg bd,env,σ => match ev env f with
  | some (.fn (.func g) cap) => if g < YB then
    match calls bars g (.yld σ.length :: cap) (σ ++ [.loop (restrict keep env) ps asg bd 0 none]) with
    | some (.ret _,σ') => match σ'[σ.length]? with
     | some (.loop env' ps' a' b' st pend) => (endLoopE st pend).bind fun e => some (e,env,σ'.set σ.length (.loop env' ps' a' b' 3 pend))
     | _ => none
    | some (.pan v,σ') => some (.pan v,env,σ')
    | none => none
   else none
  | _ => none
 | _,.dfr ..,_,_ => none
 | _,.exit id keep,env,σ => some (.exit id,restrict keep env,σ)
 | _,.ret keep,env,σ => some (.ret,restrict keep env,σ)
def argEnv (i : Nat) : List PV → Env
 | [] => []
 | v :: r => (i,norm v) :: argEnv (i + 1) r
def argEnvR (i : Nat) : List PV → Env
 | [] => []
 | v :: r => (i,v) :: argEnvR (i + 1) r
def argEnvM (m : Nat) (args : List PV) : Env := if m = 5 ∨ m = 7 ∨ m = 8 then argEnvR 0 args else argEnv 0 args
def resE (env : Env) (σ : Sto) : ResV → Option PV
 | .t s => look env s
 | .cell s n => (look env s).bind fun a => loadE σ n a
def ressE (env : Env) (σ : Sto) : List ResV → Option (List PV)
 | [] => some []
 | x :: r => (resE env σ x).bind fun v => (ressE env σ r).bind fun vs => some (v :: vs)
def pack : List PV → PV
 | [v] => v
 | l => .tup l
def leave (mode n : Nat) (v : PV) (σ : Sto) : Option (PV × Sto) :=
 if mode = 1 ∨ mode = 8 then if below n v then some (v,σ.take n) else none
 else if mode = 4 then some (norm v,σ)
 else if mode = 6 ∨ mode = 7 then some (v,σ)
 else if below n (norm v) then some (norm v,σ.take n) else none
abbrev Hook := FuncId → Option (List PV → Sto → Option (Out × Sto))
abbrev CSem := List Nat → IC → Env → Sto → Option (Ex × Env × Sto)
def opV (bars : List Nat) (o : IOper) (env : Env) (σ : Sto) : Option (Env × Sto) :=
 match wantedE env o.guard with
 | some true =>
  match opE bars env σ o.op with
  | some (.val v σ') => some (putE env o.dst v,σ')
  | _ => none
 | some false => some (putE env o.dst (.tup []),σ)
 | none => none
def opsR (bars : List Nat) : List IOper → Option PV → Env → Sto → Option (Option PV × Env × Sto)
 | [],u,env,σ => some (u,env,σ)
 | o :: r,u,env,σ => match o with
  | ⟨d,.recover,none⟩ => opsR bars r none (putE env d (u.getD (.k .nilIface))) σ
  | o => match opV bars o env σ with
   | some (env',σ') => opsR bars r u env' σ'
   | none => none
def hasRec : List IOper → Bool
 | [] => false
 | o :: r => (match o.op with | .recover => true | _ => false) || hasRec r
def evRd (C : CSem) (bars : List Nat) (c : IC) (u : Option PV) (env : Env) (σ : Sto) : Option (Ex × Option PV × Env × Sto) :=
 match C bars c env σ with
 | some (e,env',σ') => some (e,u,env',σ')
 | none => none
def evR (C : CSem) (bars : List Nat) : IC → Option PV → Env → Sto → Option (Ex × Option PV × Env × Sto)
 | .seq a b,u,env,σ => match evR C bars a u env σ with
  | some (.norm,u',env',σ') => evR C bars b u' env' σ'
  | r => r
 | .cond c a b,u,env,σ => match ev env c with
  | some (.k (.bool true)) => evR C bars a u env σ
  | some (.k (.bool false)) => evR C bars b u env σ
  | _ => none
 | .reg none ops keep,u,env,σ =>
  if hasRec ops then match opsR bars ops u env σ with
   | some (u',env',σ') => some (.norm,u',restrict keep env',σ')
   | none => none
  else evRd C bars (.reg none ops keep) u env σ
 | c,u,env,σ => evRd C bars c u env σ
def dcall (T : FuncId → Option IF) (C : CSem) (bars : List Nat) (g : FuncId) (args : List PV) (u : Option PV) (σ : Sto) : Option (Option PV × Sto) :=
 match T g with
 | none => none
 | some fn => if fn.mode = 3 ∧ args.length = fn.np ∧ fn.res.isEmpty then
   match evR C (σ.length :: bars) fn.body u (argEnv 0 args) σ with
   | some (.norm,u',_,σ') | some (.ret,u',_,σ') => some (u',σ'.take σ.length)
   | _ => none
  else none
def dtgt (env : Env) : Tgt → Option (FuncId × List PV)
 | .f n => if n < YB then some (n,[]) else none
 | .v x => match ev env x with
  | some (.fn (.func n) cap) => if n < YB then some (n,cap) else none
  | _ => none
 | .m .. => none
def evDd (C : CSem) (bars : List Nat) (c : IC) (env : Env) (σ : Sto) : Option (Option PV × Env × Sto) :=
 match C bars c env σ with
 | some (.norm,env',σ') => some (none,env',σ')
 | some (.ret,env',σ') => some (none,env',σ')
 | some (.pan v,env',σ') => some (some v,env',σ')
 | _ => none
def evD (T : FuncId → Option IF) (C : CSem) (bars : List Nat) : IC → Env → Sto → Option (Option PV × Env × Sto)
 | .seq a b,env,σ => match C bars a env σ with
  | some (.norm,env',σ') => evD T C bars b env' σ'
  | some (.ret,env',σ') => some (none,env',σ')
  | some (.pan v,env',σ') => some (some v,env',σ')
  | _ => none
 | .dfr pre keep f args rest,env,σ => match opsR bars pre none env σ with
  | some (_,env1,σ1) => match evs env1 args,dtgt env1 f with
   | some vs,some (g,cap) => match evD T C bars rest (restrict keep env1) σ1 with
    | some (u,env2,σ2) => match dcall T C bars g (vs ++ cap) u σ2 with
     | some (u',σ3) => some (u',env2,σ3)
     | none => none
    | none => none
   | _,_ => none
  | none => none
 | c,env,σ => evDd C bars c env σ
def roundE (calls : Sem') (it : It) : Sem' := fun bars l args σ =>
 match σ[l]? with
 | some (.loop env ps asg bd 0 none) => if args.length = ps.length then
   match evC calls it (σ.length :: bars) asg (putArgs ps args env) σ with
   | some (.norm,env1,σ1) => match σ1[l]? with
    | some (.loop env' ps' a' b' 0 none) =>
     match evC calls it (σ.length :: bars) bd env1 (σ1.set l (.loop env' ps' a' b' 1 none)) with
     | some (e,_,σ2) => match σ2[l]? with
      | some (.loop env' ps' a' b' 1 none) => (pendE e).bind fun p => some (.ret (.b p.isNone),(σ2.set l (.loop env' ps' a' b' (if p.isNone then 0 else 2) p)).take σ.length)
      | _ => none
     | none => none
    | _ => none
   | _ => none
  else none
 | _ => none
def finish (fn : IF) (n : Nat) : Option (Option PV × Env × Sto) → Option (Out × Sto)
 | some (none,env,σ') => (ressE env σ' fn.res).bind fun vs => (leave fn.mode n (pack vs) σ').bind fun p => some (.ret p.1,p.2)
 | some (some v,_,σ') => if below n v then some (.pan v,σ'.take n) else none
 | none => none
def body (T : FuncId → Option IF) (H : Hook) (calls : Sem') (it : It) : Sem' := fun bars f args σ =>
 if YB ≤ f then roundE calls it bars (f - YB) args σ else
 match H f with
 | some h => h args σ
 | none => match T f with
  | none => none
  | some fn => if args.length = fn.np then
    if fn.mode = 2 then finish fn σ.length (evD T (evC calls it) (σ.length :: bars) fn.body (argEnv 0 args) σ) else if fn.mode = 3 then none else
    match evC calls it (σ.length :: bars) fn.body (argEnvM fn.mode args) σ with
    | some (.norm,env,σ') | some (.ret,env,σ') => (ressE env σ' fn.res).bind fun vs => (leave fn.mode σ.length (pack vs) σ').bind fun p => some (.ret p.1,p.2)
    | some (.pan v,_,σ') => if below σ.length v then some (.pan v,σ'.take σ.length) else none
    | _ => none
   else none
def run (T : FuncId → Option IF) (H : Hook) : Nat → Sem'
 | 0,_,_,_,_ => none
 | k + 1,bars,f,args,σ => body T H (run T H k) (fun s x => iter s k x) bars f args σ
end
end Go.Ev


namespace Go.Ev
noncomputable section
def Le {α β : Type} (f g : α → Option β) : Prop := ∀ x r,f x = some r → g x = some r
def LeS (f g : Sem') : Prop := ∀ l a b c r,f l a b c = some r → g l a b c = some r
def LeI (i j : It) : Prop := ∀ s t,Le s t → Le (i s) (j t)
theorem iter_mono {s t : Env × Sto → Option (Ex × Env × Sto)} (h : Le s t) : ∀ n m,n ≤ m → Le (iter s n) (iter t m) := by
 intro n
 induction n with
 | zero => intro m _ x r hr; simp [iter] at hr
 | succ n ih =>
  intro m hm x r hr
  obtain ⟨m,rfl⟩ : ∃ l,m = l + 1 := ⟨m - 1,by omega⟩
  simp only [iter] at hr ⊢
  cases hs : s x with
  | none => rw [hs] at hr; simp at hr
  | some y =>
   rw [hs] at hr
   rw [h x y hs]
   obtain ⟨e,y⟩ := y
   cases e with
   | norm => exact ih m (by omega) _ _ hr
   | exit id => exact hr
   | ret => exact hr
   | pan v => exact hr
theorem evOp1_mono {f g : Sem'} (h : LeS f g) (bar : List Nat) (o : IOper) (env : Env) (σ : Sto) r (hr : evOp1 f bar o env σ = some r) : evOp1 g bar o env σ = some r := by
 unfold evOp1 at hr ⊢
 split at hr
 ·split at hr
  ·exact hr
  ·split at hr
   ·rename_i hc; rw [h _ _ _ _ _ hc]; exact hr
   ·rename_i hc; rw [h _ _ _ _ _ hc]; exact hr
   ·cases hr
  ·exact hr
  ·cases hr
 ·exact hr
 ·cases hr
theorem evOps_mono {f g : Sem'} (h : LeS f g) (bar : List Nat) : ∀ (l : List IOper) (env : Env) (σ : Sto) r,evOps f bar l env σ = some r → evOps g bar l env σ = some r := by
 intro l
 induction l with
 | nil => intro env σ r hr; exact hr
 | cons o l ih =>
  intro env σ r hr
  simp only [evOps] at hr ⊢
  cases ha : evOp1 f bar o env σ with
  | none => rw [ha] at hr; cases hr
  | some y =>
   rw [ha] at hr
   rw [evOp1_mono h bar o env σ y ha]
   obtain ⟨e,y1,y2⟩ := y
   cases e with
   | norm => exact ih _ _ _ hr
   | exit id => exact hr
   | ret => exact hr
   | pan v => exact hr
theorem evC_mono {f g : Sem'} {i j : It} (h : LeS f g) (hi : LeI i j) : ∀ (c : IC) (bar : List Nat) (env : Env) (σ : Sto) r,evC f i bar c env σ = some r → evC g j bar c env σ = some r := by
 intro c
 induction c with
 | skip => intro bar env σ r hr; exact hr
 | stuck => intro bar env σ r hr; cases hr
 | seq a b iha ihb =>
  intro bar env σ r hr
  simp only [evC] at hr ⊢
  cases ha : evC f i bar a env σ with
  | none => rw [ha] at hr; cases hr
  | some y =>
   rw [ha] at hr
   rw [iha _ _ _ _ ha]
   obtain ⟨e,y1,y2⟩ := y
   cases e with
   | norm => exact ihb _ _ _ _ hr
   | exit id => exact hr
   | ret => exact hr
   | pan v => exact hr
 | reg d ops keep =>
  intro bar env σ r hr
  simp only [evC] at hr ⊢
  cases ha : evOps f bar ops env σ with
  | none => rw [ha] at hr; simp at hr
  | some y => rw [ha] at hr; rw [evOps_mono h bar _ _ _ _ ha]; exact hr
 | psa c l ih =>
  intro bar env σ r hr
  simp only [evC] at hr ⊢
  cases hc : evC f i bar c env σ with
  | none => rw [hc] at hr; cases hr
  | some y => rw [hc] at hr; rw [ih _ _ _ _ hc]; exact hr
 | ps l c ih =>
  intro bar env σ r hr
  simp only [evC] at hr ⊢
  cases hp : psE bar env σ l with
  | none => rw [hp] at hr; cases hr
  | some y => rw [hp] at hr; exact ih _ _ _ _ hr
 | cond c a b iha ihb =>
  intro bar env σ r hr
  simp only [evC] at hr ⊢
  split at hr
  ·exact iha _ _ _ _ hr
  ·exact ihb _ _ _ _ hr
  ·cases hr
 | block id a ih =>
  intro bar env σ r hr
  simp only [evC] at hr ⊢
  cases ha : evC f i bar a env σ with
  | none => rw [ha] at hr; cases hr
  | some y => rw [ha] at hr; rw [ih _ _ _ _ ha]; exact hr
 | loop a ih =>
  intro bar env σ r hr
  simp only [evC] at hr ⊢
  exact hi _ _ (fun x r hx => ih _ _ _ _ hx) _ _ hr
 | cut a keep ih =>
  intro bar env σ r hr
  simp only [evC] at hr ⊢
  cases ha : evC f i (σ.length :: bar) a env σ with
  | none => rw [ha] at hr; cases hr
  | some y => rw [ha] at hr; rw [ih _ _ _ _ ha]; exact hr
 | rfunc x ps keep asg bd _ _ =>
  intro bar env σ r hr
  simp only [evC] at hr ⊢
  split at hr
  ·rename_i g' cap hx
   split at hr
   ·rename_i hg
    rw [if_pos hg]
    cases hc : f bar g' (.yld σ.length :: cap) (σ ++ [.loop (restrict keep env) ps asg bd 0 none]) with
    | none => rw [hc] at hr; cases hr
    | some y => rw [hc] at hr; rw [h _ _ _ _ _ hc]; exact hr
   ·cases hr
  ·cases hr
 | dfr => intro bar env σ r hr; cases hr
 | exit id _ => intro bar env σ r hr; exact hr
 | ret _ => intro bar env σ r hr; exact hr
def LeC (f g : CSem) : Prop := ∀ l c e s r,f l c e s = some r → g l c e s = some r
theorem evR_mono {f g : CSem} (h : LeC f g) : ∀ (c : IC) (bar : List Nat) (u : Option PV) (env : Env) (σ : Sto) r,evR f bar c u env σ = some r → evR g bar c u env σ = some r := by
 intro c
 have dflt : ∀ (c : IC) (bar : List Nat) (u : Option PV) (env : Env) (σ : Sto) r,evRd f bar c u env σ = some r → evRd g bar c u env σ = some r := by
  intro c bar u env σ r hr
  unfold evRd at hr ⊢
  cases ha : f bar c env σ with
  | none => rw [ha] at hr; cases hr
  | some y => rw [ha] at hr; rw [h _ _ _ _ _ ha]; exact hr
 induction c with
 | seq a b iha ihb =>
  intro bar u env σ r hr
  simp only [evR] at hr ⊢
  cases ha : evR f bar a u env σ with
  | none => rw [ha] at hr; cases hr
  | some y =>
   rw [ha] at hr
   rw [iha _ _ _ _ _ ha]
   obtain ⟨e,y1,y2,y3⟩ := y
   cases e with
   | norm => exact ihb _ _ _ _ _ hr
   | exit id => exact hr
   | ret => exact hr
   | pan v => exact hr
 | cond c a b iha ihb =>
  intro bar u env σ r hr
  simp only [evR] at hr ⊢
  split at hr
  ·exact iha _ _ _ _ _ hr
  ·exact ihb _ _ _ _ _ hr
  ·cases hr
 | reg d ops keep =>
  intro bar u env σ r hr
  cases d with
  | some ix => exact dflt _ _ _ _ _ _ hr
  | none =>
   simp only [evR] at hr ⊢
   split at hr
   ·rename_i hh; rw [if_pos hh]; exact hr
   ·rename_i hh; rw [if_neg hh]; exact dflt _ _ _ _ _ _ hr
 | _ => exact fun bar u env σ r hr => dflt _ _ _ _ _ _ hr
theorem dcall_mono {T : FuncId → Option IF} {f g : CSem} (h : LeC f g) {bar : List Nat} {k : FuncId} {args : List PV} {u : Option PV} {σ : Sto} {r} (hr : dcall T f bar k args u σ = some r) : dcall T g bar k args u σ = some r := by
 unfold dcall at hr ⊢
 cases hT : T k with
 | none => rw [hT] at hr; cases hr
 | some fn =>
  rw [hT] at hr
  simp only at hr ⊢
  split at hr
  ·rename_i hc
   rw [if_pos hc]
   cases ha : evR f (σ.length :: bar) fn.body u (argEnv 0 args) σ with
   | none => rw [ha] at hr; cases hr
   | some y => rw [ha] at hr; rw [evR_mono h _ _ _ _ _ _ ha]; exact hr
  ·cases hr
theorem evD_mono {T : FuncId → Option IF} {f g : CSem} (h : LeC f g) : ∀ (c : IC) (bar : List Nat) (env : Env) (σ : Sto) r,evD T f bar c env σ = some r → evD T g bar c env σ = some r := by
 intro c
 have dflt : ∀ (c : IC) (bar : List Nat) (env : Env) (σ : Sto) (r : Option PV × Env × Sto),evDd f bar c env σ = some r → evDd g bar c env σ = some r := by
  intro c bar env σ r hr
  unfold evDd at hr ⊢
  cases ha : f bar c env σ with
  | none => rw [ha] at hr; cases hr
  | some y => rw [ha] at hr; rw [h _ _ _ _ _ ha]; exact hr
 induction c with
 | seq a b iha ihb =>
  intro bar env σ r hr
  simp only [evD] at hr ⊢
  cases ha : f bar a env σ with
  | none => rw [ha] at hr; cases hr
  | some y =>
   rw [ha] at hr
   rw [h _ _ _ _ _ ha]
   obtain ⟨e,y1,y2⟩ := y
   cases e with
   | norm => exact ihb _ _ _ _ hr
   | exit id => exact hr
   | ret => exact hr
   | pan v => exact hr
 | dfr pre keep k args rest ih =>
  intro bar env σ r hr
  simp only [evD] at hr ⊢
  split at hr
  ·split at hr
   ·split at hr
    ·rename_i h1
     rw [ih _ _ _ _ h1]
     simp only
     split at hr
     ·rename_i h2; rw [dcall_mono h h2]; exact hr
     ·cases hr
    ·cases hr
   ·cases hr
  ·cases hr
 | _ => exact fun bar env σ r hr => dflt _ _ _ _ _ hr
theorem roundE_mono {f g : Sem'} {i j : It} (h : LeS f g) (hi : LeI i j) : LeS (roundE f i) (roundE g j) := by
 intro bars l args σ r hr
 unfold roundE at hr ⊢
 split at hr
 ·split at hr
  ·rename_i hl
   rw [if_pos hl]
   split at hr
   ·rename_i h1
    rw [evC_mono h hi _ _ _ _ _ h1]
    simp only
    split at hr
    ·split at hr
     ·rename_i h2
      rw [evC_mono h hi _ _ _ _ _ h2]
      exact hr
     ·cases hr
    ·cases hr
   ·cases hr
  ·cases hr
 ·cases hr
theorem body_mono {T : FuncId → Option IF} {H : Hook} {f g : Sem'} {i j : It} (h : LeS f g) (hi : LeI i j) : LeS (body T H f i) (body T H g j) := by
 intro l a b c r hr
 unfold body at hr ⊢
 by_cases hy : YB ≤ a
 ·rw [if_pos hy] at hr ⊢
  exact roundE_mono h hi _ _ _ _ _ hr
 rw [if_neg hy] at hr ⊢
 cases hH : H a with
 | some hk => rw [hH] at hr; exact hr
 | none =>
  rw [hH] at hr
  simp only at hr ⊢
  cases hT : T a with
  | none => rw [hT] at hr; cases hr
  | some fn =>
   rw [hT] at hr
   simp only at hr ⊢
   by_cases hl : b.length = fn.np
   ·rw [if_pos hl] at hr ⊢
    by_cases hm : fn.mode = 2
    ·rw [if_pos hm] at hr ⊢
     cases ha : evD T (evC f i) (c.length :: l) fn.body (argEnv 0 b) c with
     | none => rw [ha] at hr; cases hr
     | some y => rw [ha] at hr; rw [evD_mono (fun l c e s r hr => evC_mono h hi c l e s r hr) _ _ _ _ _ ha]; exact hr
    rw [if_neg hm] at hr ⊢
    by_cases hm3 : fn.mode = 3
    ·rw [if_pos hm3] at hr; cases hr
    rw [if_neg hm3] at hr ⊢
    cases ha : evC f i (c.length :: l) fn.body (argEnvM fn.mode b) c with
    | none => rw [ha] at hr; cases hr
    | some y => rw [ha] at hr; rw [evC_mono h hi _ _ _ _ _ ha]; exact hr
   ·rw [if_neg hl] at hr; cases hr
open Classical in
def iterW : It := fun s x => if h : ∃ r n,iter s n x = some r then some h.choose else none
theorem iterW_of {s : Env × Sto → Option (Ex × Env × Sto)} {x r n} (h : iter s n x = some r) : iterW s x = some r := by
 have hex : ∃ r n,iter s n x = some r := ⟨r,n,h⟩
 unfold iterW
 rw [dif_pos hex]
 obtain ⟨m,hm⟩ := hex.choose_spec
 have h1 := iter_mono (s := s) (t := s) (fun _ _ h => h) m (max n m) (by omega) _ _ hm
 have h2 := iter_mono (s := s) (t := s) (fun _ _ h => h) n (max n m) (by omega) _ _ h
 rw [h1] at h2
 exact h2
theorem iterW_some {s : Env × Sto → Option (Ex × Env × Sto)} {x r} (h : iterW s x = some r) : ∃ n,iter s n x = some r := by
 unfold iterW at h
 split at h
 ·rename_i hex
  obtain ⟨m,hm⟩ := hex.choose_spec
  cases h
  exact ⟨m,hm⟩
 ·cases h
theorem iterW_eq (s : Env × Sto → Option (Ex × Env × Sto)) (x : Env × Sto) : iterW s x = match s x with
  | some (.norm,y) => iterW s y
  | r => r := by
 cases hs : s x with
 | none =>
  simp only []
  cases h : iterW s x with
  | none => rfl
  | some r =>
   obtain ⟨n,hn⟩ := iterW_some h
   cases n with
   | zero => cases hn
   | succ n => simp [iter,hs] at hn
 | some y =>
  obtain ⟨e,y⟩ := y
  cases e with
  | norm =>
   simp only []
   cases h : iterW s y with
   | none =>
    cases h' : iterW s x with
    | none => rfl
    | some r =>
     obtain ⟨n,hn⟩ := iterW_some h'
     cases n with
     | zero => cases hn
     | succ n =>
      simp only [iter,hs] at hn
      rw [iterW_of hn] at h; cases h
   | some r =>
    obtain ⟨n,hn⟩ := iterW_some h
    exact iterW_of (n := n + 1) (by simp only [iter,hs]; exact hn)
  | exit id => exact iterW_of (n := 1) (by simp only [iter,hs])
  | ret => exact iterW_of (n := 1) (by simp only [iter,hs])
  | pan v => exact iterW_of (n := 1) (by simp only [iter,hs])
theorem iter_leW (n : Nat) : LeI (fun s x => iter s n x) iterW := by
 intro s t hst x r hr
 exact iterW_of (iter_mono hst n n (Nat.le_refl _) _ _ hr)
structure Tends (fs : Nat → Sem') (f : Sem') : Prop where
 mono : ∀ n m,n ≤ m → LeS (fs n) (fs m)
 hit : ∀ l a b c r,f l a b c = some r → ∃ n,fs n l a b c = some r
theorem evOp1_hit {fs : Nat → Sem'} {f : Sem'} (h : Tends fs f) (bar : List Nat) (o : IOper) (env : Env) (σ : Sto) r (hr : evOp1 f bar o env σ = some r) : ∃ n,evOp1 (fs n) bar o env σ = some r := by
 unfold evOp1 at hr ⊢
 split at hr
 ·split at hr
  ·exact ⟨0,hr⟩
  ·split at hr
   ·rename_i hc
    obtain ⟨n,hn⟩ := h.hit _ _ _ _ _ hc
    exact ⟨n,by rw [hn]; exact hr⟩
   ·rename_i hc
    obtain ⟨n,hn⟩ := h.hit _ _ _ _ _ hc
    exact ⟨n,by rw [hn]; exact hr⟩
   ·cases hr
  ·exact ⟨0,hr⟩
  ·cases hr
 ·exact ⟨0,hr⟩
 ·cases hr
theorem evOps_hit {fs : Nat → Sem'} {f : Sem'} (h : Tends fs f) (bar : List Nat) : ∀ (l : List IOper) (env : Env) (σ : Sto) r,evOps f bar l env σ = some r → ∃ n,evOps (fs n) bar l env σ = some r := by
 intro l
 induction l with
 | nil => intro env σ r hr; exact ⟨0,hr⟩
 | cons o l ih =>
  intro env σ r hr
  simp only [evOps] at hr ⊢
  cases ha : evOp1 f bar o env σ with
  | none => rw [ha] at hr; cases hr
  | some y =>
   rw [ha] at hr
   obtain ⟨n,hn⟩ := evOp1_hit h bar o env σ y ha
   obtain ⟨e,y1,y2⟩ := y
   cases e with
   | norm =>
    obtain ⟨m,hm⟩ := ih _ _ _ hr
    refine ⟨max n m,?_⟩
    rw [evOp1_mono (h.mono n (max n m) (by omega)) bar _ _ _ _ hn]
    exact evOps_mono (h.mono m (max n m) (by omega)) bar _ _ _ _ hm
   | exit id => exact ⟨n,by rw [hn]; exact hr⟩
   | ret => exact ⟨n,by rw [hn]; exact hr⟩
   | pan v => exact ⟨n,by rw [hn]; exact hr⟩
theorem iter_hit {ss : Nat → Env × Sto → Option (Ex × Env × Sto)} {s : Env × Sto → Option (Ex × Env × Sto)} (hm : ∀ n m,n ≤ m → Le (ss n) (ss m)) (hh : ∀ x r,s x = some r → ∃ n,ss n x = some r) :
  ∀ n x r,iter s n x = some r → ∃ m,iter (ss m) m x = some r := by
 intro n
 induction n with
 | zero => intro x r hr; cases hr
 | succ n ih =>
  intro x r hr
  simp only [iter] at hr
  cases hs : s x with
  | none => rw [hs] at hr; cases hr
  | some y =>
   rw [hs] at hr
   obtain ⟨p,hp⟩ := hh _ _ hs
   obtain ⟨e,y⟩ := y
   cases e with
   | norm =>
    obtain ⟨m,hm'⟩ := ih _ _ hr
    refine ⟨max p m + 1,?_⟩
    simp only [iter]
    rw [hm p (max p m + 1) (by omega) _ _ hp]
    exact iter_mono (hm m (max p m + 1) (by omega)) m (max p m) (by omega) _ _ hm'
   | exit id => exact ⟨p + 1,by simp only [iter]; rw [hm p (p + 1) (by omega) _ _ hp]; exact hr⟩
   | ret => exact ⟨p + 1,by simp only [iter]; rw [hm p (p + 1) (by omega) _ _ hp]; exact hr⟩
   | pan v => exact ⟨p + 1,by simp only [iter]; rw [hm p (p + 1) (by omega) _ _ hp]; exact hr⟩
theorem evC_hit {fs : Nat → Sem'} {f : Sem'} (h : Tends fs f) : ∀ (c : IC) (bar : List Nat) (env : Env) (σ : Sto) r,evC f iterW bar c env σ = some r → ∃ n,evC (fs n) (fun s x => iter s n x) bar c env σ = some r := by
 have lift : ∀ (c : IC) (bar : List Nat) (env : Env) (σ : Sto) r n m,n ≤ m → evC (fs n) (fun s x => iter s n x) bar c env σ = some r → evC (fs m) (fun s x => iter s m x) bar c env σ = some r :=
  fun c bar env σ r n m hnm hr => evC_mono (h.mono n m hnm) (fun s t hst => iter_mono hst n m hnm) c bar env σ r hr
 intro c
 induction c with
 | skip => intro bar env σ r hr; exact ⟨0,hr⟩
 | stuck => intro bar env σ r hr; cases hr
 | seq a b iha ihb =>
  intro bar env σ r hr
  simp only [evC] at hr ⊢
  cases ha : evC f iterW bar a env σ with
  | none => rw [ha] at hr; cases hr
  | some y =>
   rw [ha] at hr
   obtain ⟨n,hn⟩ := iha _ _ _ _ ha
   obtain ⟨e,y1,y2⟩ := y
   cases e with
   | norm =>
    obtain ⟨m,hm⟩ := ihb _ _ _ _ hr
    exact ⟨max n m,by rw [lift _ _ _ _ _ n (max n m) (by omega) hn]; exact lift _ _ _ _ _ m (max n m) (by omega) hm⟩
   | exit id => exact ⟨n,by rw [hn]; exact hr⟩
   | ret => exact ⟨n,by rw [hn]; exact hr⟩
   | pan v => exact ⟨n,by rw [hn]; exact hr⟩
 | reg d ops keep =>
  intro bar env σ r hr
  simp only [evC] at hr ⊢
  cases ha : evOps f bar ops env σ with
  | none => rw [ha] at hr; simp at hr
  | some y =>
   rw [ha] at hr
   obtain ⟨n,hn⟩ := evOps_hit h bar _ _ _ _ ha
   exact ⟨n,by rw [hn]; exact hr⟩
 | psa c l ih =>
  intro bar env σ r hr
  simp only [evC] at hr ⊢
  cases hc : evC f iterW bar c env σ with
  | none => rw [hc] at hr; cases hr
  | some y =>
   rw [hc] at hr
   obtain ⟨n,hn⟩ := ih _ _ _ _ hc
   exact ⟨n,by rw [hn]; exact hr⟩
 | ps l c ih =>
  intro bar env σ r hr
  simp only [evC] at hr ⊢
  cases hp : psE bar env σ l with
  | none => rw [hp] at hr; cases hr
  | some y => rw [hp] at hr; exact ih _ _ _ _ hr
 | cond c a b iha ihb =>
  intro bar env σ r hr
  simp only [evC] at hr ⊢
  split at hr
  ·exact iha _ _ _ _ hr
  ·exact ihb _ _ _ _ hr
  ·cases hr
 | block id a ih =>
  intro bar env σ r hr
  simp only [evC] at hr ⊢
  cases ha : evC f iterW bar a env σ with
  | none => rw [ha] at hr; cases hr
  | some y =>
   rw [ha] at hr
   obtain ⟨n,hn⟩ := ih _ _ _ _ ha
   exact ⟨n,by rw [hn]; exact hr⟩
 | loop a ih =>
  intro bar env σ r hr
  simp only [evC] at hr ⊢
  obtain ⟨n,hn⟩ := iterW_some hr
  exact iter_hit (ss := fun n x => evC (fs n) (fun s x => iter s n x) bar a x.1 x.2) (fun n m hnm x r hr => lift _ _ _ _ _ n m hnm hr) (fun x r hr => ih _ _ _ _ hr) n _ _ hn
 | cut a keep ih =>
  intro bar env σ r hr
  simp only [evC] at hr ⊢
  cases ha : evC f iterW (σ.length :: bar) a env σ with
  | none => rw [ha] at hr; cases hr
  | some y =>
   rw [ha] at hr
   obtain ⟨n,hn⟩ := ih _ _ _ _ ha
   exact ⟨n,by rw [hn]; exact hr⟩
 | rfunc x ps keep asg bd _ _ =>
  intro bar env σ r hr
  simp only [evC] at hr ⊢
  split at hr
  ·rename_i g' cap hx
   split at hr
   ·rename_i hg
    cases hc : f bar g' (.yld σ.length :: cap) (σ ++ [.loop (restrict keep env) ps asg bd 0 none]) with
    | none => rw [hc] at hr; cases hr
    | some y =>
     rw [hc] at hr
     obtain ⟨n,hn⟩ := h.hit _ _ _ _ _ hc
     exact ⟨n,by simp only [if_pos hg,hn]; exact hr⟩
   ·cases hr
  ·cases hr
 | dfr => intro bar env σ r hr; cases hr
 | exit id _ => intro bar env σ r hr; exact ⟨0,hr⟩
 | ret _ => intro bar env σ r hr; exact ⟨0,hr⟩
structure TendsC (gs : Nat → CSem) (g : CSem) : Prop where
 mono : ∀ n m,n ≤ m → LeC (gs n) (gs m)
 hit : ∀ l c e s r,g l c e s = some r → ∃ n,gs n l c e s = some r
theorem evR_hit {gs : Nat → CSem} {g : CSem} (h : TendsC gs g) : ∀ (c : IC) (bar : List Nat) (u : Option PV) (env : Env) (σ : Sto) r,evR g bar c u env σ = some r → ∃ n,evR (gs n) bar c u env σ = some r := by
 intro c
 have dflt : ∀ (c : IC) (bar : List Nat) (u : Option PV) (env : Env) (σ : Sto) (r : Ex × Option PV × Env × Sto),evRd g bar c u env σ = some r → ∃ n,evRd (gs n) bar c u env σ = some r := by
  intro c bar u env σ r hr
  unfold evRd at hr ⊢
  cases ha : g bar c env σ with
  | none => rw [ha] at hr; cases hr
  | some y =>
   obtain ⟨n,hn⟩ := h.hit _ _ _ _ _ ha
   exact ⟨n,by rw [hn]; rw [ha] at hr; exact hr⟩
 induction c with
 | seq a b iha ihb =>
  intro bar u env σ r hr
  simp only [evR] at hr ⊢
  cases ha : evR g bar a u env σ with
  | none => rw [ha] at hr; cases hr
  | some y =>
   rw [ha] at hr
   obtain ⟨n,hn⟩ := iha _ _ _ _ _ ha
   obtain ⟨e,y1,y2,y3⟩ := y
   cases e with
   | norm =>
    obtain ⟨m,hm⟩ := ihb _ _ _ _ _ hr
    exact ⟨max n m,by rw [evR_mono (h.mono n (max n m) (by omega)) _ _ _ _ _ _ hn]; exact evR_mono (h.mono m (max n m) (by omega)) _ _ _ _ _ _ hm⟩
   | exit id => exact ⟨n,by rw [hn]; exact hr⟩
   | ret => exact ⟨n,by rw [hn]; exact hr⟩
   | pan v => exact ⟨n,by rw [hn]; exact hr⟩
 | cond c a b iha ihb =>
  intro bar u env σ r hr
  simp only [evR] at hr ⊢
  split at hr
  ·exact iha _ _ _ _ _ hr
  ·exact ihb _ _ _ _ _ hr
  ·cases hr
 | reg d ops keep =>
  intro bar u env σ r hr
  cases d with
  | some ix => exact dflt _ _ _ _ _ _ hr
  | none =>
   simp only [evR] at hr ⊢
   split at hr
   ·rename_i hh; simp only [if_pos hh]; exact ⟨0,hr⟩
   ·rename_i hh; simp only [if_neg hh]; exact dflt _ _ _ _ _ _ hr
 | _ => exact fun bar u env σ r hr => dflt _ _ _ _ _ _ hr
theorem dcall_hit {T : FuncId → Option IF} {gs : Nat → CSem} {g : CSem} (h : TendsC gs g) {bar : List Nat} {k : FuncId} {args : List PV} {u : Option PV} {σ : Sto} {r} (hr : dcall T g bar k args u σ = some r) : ∃ n,dcall T (gs n) bar k args u σ = some r := by
 unfold dcall at hr ⊢
 cases hT : T k with
 | none => rw [hT] at hr; cases hr
 | some fn =>
  rw [hT] at hr
  simp only at hr ⊢
  split at hr
  ·rename_i hc
   simp only [if_pos hc]
   cases ha : evR g (σ.length :: bar) fn.body u (argEnv 0 args) σ with
   | none => rw [ha] at hr; cases hr
   | some y =>
    obtain ⟨n,hn⟩ := evR_hit h _ _ _ _ _ _ ha
    exact ⟨n,by rw [hn]; rw [ha] at hr; exact hr⟩
  ·cases hr
theorem evD_hit {T : FuncId → Option IF} {gs : Nat → CSem} {g : CSem} (h : TendsC gs g) : ∀ (c : IC) (bar : List Nat) (env : Env) (σ : Sto) r,evD T g bar c env σ = some r → ∃ n,evD T (gs n) bar c env σ = some r := by
 intro c
 have dflt : ∀ (c : IC) (bar : List Nat) (env : Env) (σ : Sto) (r : Option PV × Env × Sto),evDd g bar c env σ = some r → ∃ n,evDd (gs n) bar c env σ = some r := by
  intro c bar env σ r hr
  unfold evDd at hr ⊢
  cases ha : g bar c env σ with
  | none => rw [ha] at hr; cases hr
  | some y =>
   obtain ⟨n,hn⟩ := h.hit _ _ _ _ _ ha
   exact ⟨n,by rw [hn]; rw [ha] at hr; exact hr⟩
 induction c with
 | seq a b iha ihb =>
  intro bar env σ r hr
  simp only [evD] at hr ⊢
  cases ha : g bar a env σ with
  | none => rw [ha] at hr; cases hr
  | some y =>
   rw [ha] at hr
   obtain ⟨n,hn⟩ := h.hit _ _ _ _ _ ha
   obtain ⟨e,y1,y2⟩ := y
   cases e with
   | norm =>
    obtain ⟨m,hm⟩ := ihb _ _ _ _ hr
    exact ⟨max n m,by rw [h.mono n (max n m) (by omega) _ _ _ _ _ hn]; exact evD_mono (h.mono m (max n m) (by omega)) _ _ _ _ _ hm⟩
   | exit id => exact ⟨n,by rw [hn]; exact hr⟩
   | ret => exact ⟨n,by rw [hn]; exact hr⟩
   | pan v => exact ⟨n,by rw [hn]; exact hr⟩
 | dfr pre keep k args rest ih =>
  intro bar env σ r hr
  simp only [evD] at hr ⊢
  split at hr
  ·split at hr
   ·split at hr
    ·rename_i h1
     obtain ⟨n,hn⟩ := ih _ _ _ _ h1
     split at hr
     ·rename_i h2
      obtain ⟨m,hm⟩ := dcall_hit h h2
      refine ⟨max n m,?_⟩
      rw [evD_mono (h.mono n (max n m) (by omega)) _ _ _ _ _ hn]
      simp only
      rw [dcall_mono (h.mono m (max n m) (by omega)) hm]
      exact hr
     ·cases hr
    ·cases hr
   ·cases hr
  ·cases hr
 | _ => exact fun bar env σ r hr => dflt _ _ _ _ _ hr
theorem roundE_hit {fs : Nat → Sem'} {f : Sem'} (h : Tends fs f) (bars : List Nat) (l : FuncId) (args : List PV) (σ : Sto) r (hr : roundE f iterW bars l args σ = some r) : ∃ n,roundE (fs n) (fun s x => iter s n x) bars l args σ = some r := by
 have lift : ∀ (c : IC) (bar : List Nat) (env : Env) (σ : Sto) r n m,n ≤ m → evC (fs n) (fun s x => iter s n x) bar c env σ = some r → evC (fs m) (fun s x => iter s m x) bar c env σ = some r :=
  fun c bar env σ r n m hnm hr => evC_mono (h.mono n m hnm) (fun s t hst => iter_mono hst n m hnm) c bar env σ r hr
 unfold roundE at hr ⊢
 split at hr
 ·split at hr
  ·rename_i hl
   split at hr
   ·rename_i h1
    obtain ⟨n,hn⟩ := evC_hit h _ _ _ _ _ h1
    split at hr
    ·rename_i hs
     split at hr
     ·rename_i h2
      obtain ⟨m,hm⟩ := evC_hit h _ _ _ _ _ h2
      refine ⟨max n m,?_⟩
      rw [if_pos hl,lift _ _ _ _ _ n (max n m) (by omega) hn]
      simp only [hs]
      rw [lift _ _ _ _ _ m (max n m) (by omega) hm]
      exact hr
     ·cases hr
    ·cases hr
   ·cases hr
  ·cases hr
 ·cases hr
theorem evC_tends {fs : Nat → Sem'} {f : Sem'} (h : Tends fs f) : TendsC (fun n => evC (fs n) (fun s x => iter s n x)) (evC f iterW) :=
 ⟨fun n m hnm l c e s r hr => evC_mono (h.mono n m hnm) (fun s t hst => iter_mono hst n m hnm) c l e s r hr,fun l c e s r hr => evC_hit h c l e s r hr⟩
end
end Go.Ev


namespace Go.Ev
class CodeRel where
 cd : IC → Code → Nat → Prop
structure Kn where
 ρ : Nat → Nat × Nat
 esz : Nat → Nat
 gen : Nat → Nat
 tok : Nat → Option (Nat × Nat × Nat)
 M : Nat → Nat → Option Value
 cap : Nat → Nat
def linkOw (κ : Kn) (id len cap : Nat) (a : Option Addr) : Prop :=
 match κ.tok id with
 | none => cap = len
 | some (b,e,f) => 0 < f ∧ cap = len + f ∧ ∃ o,a = some ⟨b,o,none⟩ ∧ o + len * κ.esz id = e
def linkRs (κ : Kn) (id off len cap : Nat) (a : Option Addr) : Prop :=
 0 < cap → a = some ⟨(κ.ρ id).1,(κ.ρ id).2 + off * κ.esz id,none⟩ ∧ (κ.ρ id).2 + (off + cap) * κ.esz id ≤ κ.cap (κ.ρ id).1
mutual
def RelV (κ : Kn) : PV → Value → Prop
 | .k v,x => x = v
 | .ptr id off,x => ∃ q,x = .pointer (some q) ∧ 1 ≤ κ.gen id ∧ (κ.gen id = 1 → q = ⟨(κ.ρ id).1,(κ.ρ id).2 + off,none⟩)
 | .pa id ver i off,x => ver ≤ κ.gen id ∧ ∃ q,x = .pointer (some q) ∧ (κ.gen id = ver → q = ⟨(κ.ρ id).1,(κ.ρ id).2 + i * κ.esz id + off,none⟩)
 | .pe cs off,x => ∃ b o,x = .pointer (some ⟨b,o + off,none⟩) ∧ RelM κ b o cs
 | .sl t es,x => ∃ a cap esz,x = .slice a es.length cap ∧ es.length ≤ cap ∧ (t = true → cap = es.length) ∧ (es ≠ [] → ∃ b o,a = some ⟨b,o,none⟩ ∧ RelE κ esz b o es)
 | .ow id n es,x => n ≤ κ.gen id ∧ ∃ a cap esz,x = .slice a es.length cap ∧ es.length ≤ cap ∧ (es ≠ [] → ∃ b o,a = some ⟨b,o,none⟩ ∧ RelE κ esz b o es) ∧ (κ.gen id = n → linkOw κ id es.length cap a)
 | .rs id ver off len,x => ver ≤ κ.gen id ∧ ∃ a cap,x = .slice a len cap ∧ len ≤ cap ∧ (κ.gen id = ver → linkRs κ id off len cap a)
 | .agg cs,x => ∃ vs,x = .agg vs ∧ RelL κ cs vs.toList ∧ ∀ v ∈ vs.toList,v.oneCell' = true
 | .tup cs,x => ∃ vs,x = .tuple vs ∧ RelL κ cs vs.toList
 | .fn f cap,x => ∃ vs,x = .func f #[] vs ∧ RelL κ cap vs.toList
 | .bm f fs,x => ∃ vs,x = .func (.func f) vs #[] ∧ RelL κ fs vs.toList
 | .yld id,x => ∃ b,x = .func (.yield b) #[] #[] ∧ 1 ≤ κ.gen id ∧ (κ.gen id = 1 → b = (κ.ρ id).1)
 | .map id,x => ∃ q,x = .map (some q) ∧ 1 ≤ κ.gen id ∧ (κ.gen id = 1 → q = (κ.ρ id).1)
 | .iface t v,x => ∃ y,x = .iface t y ∧ RelV κ v y
def RelL (κ : Kn) : List PV → List Value → Prop
 | [],l => l = []
 | p :: r,l => ∃ v l',l = v :: l' ∧ RelV κ p v ∧ RelL κ r l'
def RelM (κ : Kn) (b o : Nat) : List PV → Prop
 | [] => True
 | p :: r => (∃ v,κ.M b o = some v ∧ v.oneCell' = true ∧ RelV κ p v) ∧ RelM κ b (o + 1) r
def RelE (κ : Kn) (esz b o : Nat) : List (List PV) → Prop
 | [] => True
 | e :: r => e.length = esz ∧ RelM κ b o e ∧ RelE κ esz b (o + esz) r
end
structure Ext (n : Nat) (κ κ' : Kn) : Prop where
 ρ : ∀ id,id < n → κ'.gen id = κ.gen id → κ'.ρ id = κ.ρ id
 esz : ∀ id,id < n → κ'.esz id = κ.esz id
 gen : ∀ id,id < n → κ.gen id ≤ κ'.gen id
 tok : ∀ id,id < n → κ'.gen id = κ.gen id → κ'.tok id = κ.tok id
 M : ∀ b o v,κ.M b o = some v → κ'.M b o = some v
 cap : ∀ b,κ.cap b ≤ κ'.cap b
theorem Ext.refl (n : Nat) (κ : Kn) : Ext n κ κ := ⟨fun _ _ _ => rfl,fun _ _ => rfl,fun _ _ => Nat.le_refl _,fun _ _ _ => rfl,fun _ _ _ h => h,fun _ => Nat.le_refl _⟩
theorem Ext.trans {n m : Nat} {κ κ' κ'' : Kn} (h : Ext n κ κ') (h' : Ext m κ' κ'') (hnm : n ≤ m) : Ext n κ κ'' := by
 have hg : ∀ id,id < n → κ''.gen id = κ.gen id → κ'.gen id = κ.gen id ∧ κ''.gen id = κ'.gen id := fun id hid he => by
  have h1 := h.gen id hid
  have h2 := h'.gen id (by omega)
  omega
 refine ⟨fun id hid he => ?_,fun id hid => ?_,fun id hid => ?_,fun id hid he => ?_,fun b o v hm => h'.M b o v (h.M b o v hm),fun b => Nat.le_trans (h.cap b) (h'.cap b)⟩
 ·rw [h'.ρ id (by omega) (hg id hid he).2,h.ρ id hid (hg id hid he).1]
 ·rw [h'.esz id (by omega),h.esz id hid]
 ·exact Nat.le_trans (h.gen id hid) (h'.gen id (by omega))
 ·rw [h'.tok id (by omega) (hg id hid he).2,h.tok id hid (hg id hid he).1]
theorem linkOw_mono {n : Nat} {κ κ' : Kn} (h : Ext n κ κ') {id len cap : Nat} {a : Option Addr} (hid : id < n) (hg : κ'.gen id = κ.gen id) (hl : linkOw κ id len cap a) : linkOw κ' id len cap a := by
 unfold linkOw at *
 rw [h.tok id hid hg,h.esz id hid]
 split
 ·rename_i he; rw [he] at hl; exact hl
 ·rename_i b e f he
  rw [he] at hl
  exact hl
theorem linkRs_mono {n : Nat} {κ κ' : Kn} (h : Ext n κ κ') {id off len cap : Nat} {a : Option Addr} (hid : id < n) (hg : κ'.gen id = κ.gen id) (hl : linkRs κ id off len cap a) : linkRs κ' id off len cap a := by
 unfold linkRs at *
 rw [h.ρ id hid hg,h.esz id hid]
 exact fun hc => ⟨(hl hc).1,Nat.le_trans (hl hc).2 (h.cap _)⟩
mutual
theorem RelV.mono {n : Nat} {κ κ' : Kn} (h : Ext n κ κ') : ∀ (p : PV) (x : Value),below n p = true → RelV κ p x → RelV κ' p x
 | .k v,x,_,hr => by simpa [RelV] using hr
 | .ptr id off,x,hb,hr => by
  simp only [below,decide_eq_true_eq] at hb
  simp only [RelV] at *
  obtain ⟨q,hx,hge,hr⟩ := hr
  have hgl := h.gen id hb
  refine ⟨q,hx,by omega,fun hg => ?_⟩
  have h0 : κ.gen id = 1 := by omega
  rw [hr h0,h.ρ id hb (by omega)]
 | .pa id ver i off,x,hb,hr => by
  simp only [below,decide_eq_true_eq] at hb
  simp only [RelV] at *
  have hle := h.gen id hb
  obtain ⟨h1,q,hx,hr⟩ := hr
  refine ⟨by omega,q,hx,fun hg => ?_⟩
  have h0 : κ.gen id = ver := by omega
  rw [hr h0,h.ρ id hb (by omega),h.esz id hb]
 | .pe cs off,x,hb,hr => by
  simp only [below] at hb
  simp only [RelV] at *
  obtain ⟨b,o,hx,hm⟩ := hr
  exact ⟨b,o,hx,RelM.mono h b o cs hb hm⟩
 | .sl t es,x,hb,hr => by
  simp only [below] at hb
  simp only [RelV] at *
  obtain ⟨a,cap,esz,hx,hc,ht,he⟩ := hr
  exact ⟨a,cap,esz,hx,hc,ht,fun hne => by
   obtain ⟨b,o,ha,hE⟩ := he hne
   exact ⟨b,o,ha,RelE.mono h esz b o es hb hE⟩⟩
 | .ow id m es,x,hb,hr => by
  simp only [below,Bool.and_eq_true,decide_eq_true_eq] at hb
  simp only [RelV] at *
  obtain ⟨hle,a,cap,esz,hx,hc,he,hl⟩ := hr
  have hge := h.gen id hb.1
  exact ⟨by omega,a,cap,esz,hx,hc,fun hne => by
   obtain ⟨b,o,ha,hE⟩ := he hne
   exact ⟨b,o,ha,RelE.mono h esz b o es hb.2 hE⟩,fun hg => linkOw_mono h hb.1 (by omega) (hl (by omega))⟩
 | .rs id ver off len,x,hb,hr => by
  simp only [below,decide_eq_true_eq] at hb
  simp only [RelV] at *
  obtain ⟨hle,a,cap,hx,hc,hl⟩ := hr
  have hge := h.gen id hb
  exact ⟨by omega,a,cap,hx,hc,fun hg => linkRs_mono h hb (by omega) (hl (by omega))⟩
 | .agg cs,x,hb,hr => by
  simp only [below] at hb
  simp only [RelV] at *
  obtain ⟨vs,hx,hl,h1⟩ := hr
  exact ⟨vs,hx,RelL.mono h cs _ hb hl,h1⟩
 | .tup cs,x,hb,hr => by
  simp only [below] at hb
  simp only [RelV] at *
  obtain ⟨vs,hx,hl⟩ := hr
  exact ⟨vs,hx,RelL.mono h cs _ hb hl⟩
 | .fn f cap,x,hb,hr => by
  simp only [below] at hb
  simp only [RelV] at *
  obtain ⟨vs,hx,hl⟩ := hr
  exact ⟨vs,hx,RelL.mono h cap _ hb hl⟩
 | .map id,x,hb,hr => by
  simp only [below,decide_eq_true_eq] at hb
  simp only [RelV] at *
  obtain ⟨q,hx,hge,hr⟩ := hr
  have hgl := h.gen id hb
  refine ⟨q,hx,by omega,fun hg => ?_⟩
  have h0 : κ.gen id = 1 := by omega
  rw [hr h0,h.ρ id hb (by omega)]
 | .bm f fs,x,hb,hr => by
  simp only [below] at hb
  simp only [RelV] at *
  obtain ⟨vs,hx,hl⟩ := hr
  exact ⟨vs,hx,RelL.mono h fs _ hb hl⟩
 | .yld id,x,hb,hr => by
  simp only [below,decide_eq_true_eq] at hb
  simp only [RelV] at *
  obtain ⟨q,hx,hge,hr⟩ := hr
  have hgl := h.gen id hb
  refine ⟨q,hx,by omega,fun hg => ?_⟩
  have h0 : κ.gen id = 1 := by omega
  rw [hr h0,h.ρ id hb (by omega)]
 | .iface t v,x,hb,hr => by
  simp only [below] at hb
  simp only [RelV] at *
  obtain ⟨y,hx,hv⟩ := hr
  exact ⟨y,hx,RelV.mono h v y hb hv⟩
theorem RelL.mono {n : Nat} {κ κ' : Kn} (h : Ext n κ κ') : ∀ (l : List PV) (x : List Value),below.belowAll n l = true → RelL κ l x → RelL κ' l x
 | [],x,_,hr => by simpa [RelL] using hr
 | p :: r,x,hb,hr => by
  simp only [below.belowAll,Bool.and_eq_true] at hb
  simp only [RelL] at *
  obtain ⟨v,l',hx,hv,hl⟩ := hr
  exact ⟨v,l',hx,RelV.mono h p v hb.1 hv,RelL.mono h r l' hb.2 hl⟩
theorem RelM.mono {n : Nat} {κ κ' : Kn} (h : Ext n κ κ') (b o : Nat) : ∀ (l : List PV),below.belowAll n l = true → RelM κ b o l → RelM κ' b o l
 | [],_,_ => by simp [RelM]
 | p :: r,hb,hr => by
  simp only [below.belowAll,Bool.and_eq_true] at hb
  simp only [RelM] at *
  obtain ⟨⟨v,hm,h1,hv⟩,hl⟩ := hr
  exact ⟨⟨v,h.M _ _ _ hm,h1,RelV.mono h p v hb.1 hv⟩,RelM.mono h b (o + 1) r hb.2 hl⟩
theorem RelE.mono {n : Nat} {κ κ' : Kn} (h : Ext n κ κ') (esz b o : Nat) : ∀ (l : List (List PV)),below.belowEs n l = true → RelE κ esz b o l → RelE κ' esz b o l
 | [],_,_ => by simp [RelE]
 | e :: r,hb,hr => by
  simp only [below.belowEs,Bool.and_eq_true] at hb
  simp only [RelE] at *
  exact ⟨hr.1,RelM.mono h b o e hb.1 hr.2.1,RelE.mono h esz b (o + esz) r hb.2 hr.2.2⟩
end
mutual
theorem below_mono {n m : Nat} (h : n ≤ m) : ∀ p : PV,below n p = true → below m p = true
 | .k v,_ => rfl
 | .ptr id off,hb => by simp only [below,decide_eq_true_eq] at *; omega
 | .pa id _ _ _,hb => by simp only [below,decide_eq_true_eq] at *; omega
 | .pe cs off,hb => by simp only [below] at *; exact belowAll_mono h cs hb
 | .sl t es,hb => by simp only [below] at *; exact belowEs_mono h es hb
 | .ow id _ es,hb => by simp only [below,Bool.and_eq_true,decide_eq_true_eq] at *; exact ⟨by omega,belowEs_mono h es hb.2⟩
 | .rs id _ _ _,hb => by simp only [below,decide_eq_true_eq] at *; omega
 | .agg cs,hb => by simp only [below] at *; exact belowAll_mono h cs hb
 | .tup cs,hb => by simp only [below] at *; exact belowAll_mono h cs hb
 | .fn _ cap,hb => by simp only [below] at *; exact belowAll_mono h cap hb
 | .yld id,hb => by simp only [below,decide_eq_true_eq] at *; omega
 | .bm _ fs,hb => by simp only [below] at *; exact belowAll_mono h fs hb
 | .map id,hb => by simp only [below,decide_eq_true_eq] at *; omega
 | .iface _ v,hb => by simp only [below] at *; exact below_mono h v hb
theorem belowAll_mono {n m : Nat} (h : n ≤ m) : ∀ l : List PV,below.belowAll n l = true → below.belowAll m l = true
 | [],_ => rfl
 | p :: r,hb => by simp only [below.belowAll,Bool.and_eq_true] at *; exact ⟨below_mono h p hb.1,belowAll_mono h r hb.2⟩
theorem belowEs_mono {n m : Nat} (h : n ≤ m) : ∀ l : List (List PV),below.belowEs n l = true → below.belowEs m l = true
 | [],_ => rfl
 | e :: r,hb => by simp only [below.belowEs,Bool.and_eq_true] at *; exact ⟨belowAll_mono h e hb.1,belowEs_mono h r hb.2⟩
end
theorem belowAll_append {n : Nat} : ∀ (a b : List PV),below.belowAll n (a ++ b) = (below.belowAll n a && below.belowAll n b)
 | [],b => by simp [below.belowAll]
 | p :: r,b => by simp [below.belowAll,belowAll_append r b,Bool.and_assoc]
theorem belowEs_append {n : Nat} : ∀ (a b : List (List PV)),below.belowEs n (a ++ b) = (below.belowEs n a && below.belowEs n b)
 | [],b => by simp [below.belowEs]
 | p :: r,b => by simp [below.belowEs,belowEs_append r b,Bool.and_assoc]
theorem belowEs_flatten {n : Nat} : ∀ (l : List (List PV)),below.belowAll n l.flatten = below.belowEs n l
 | [] => rfl
 | e :: r => by simp [below.belowEs,belowAll_append,belowEs_flatten r]
theorem belowAll_mem {n : Nat} {l : List PV} (h : below.belowAll n l = true) {p : PV} (hp : p ∈ l) : below n p = true := by
 induction l with
 | nil => cases hp
 | cons x r ih =>
  simp only [below.belowAll,Bool.and_eq_true] at h
  cases hp with
  | head => exact h.1
  | tail _ hp => exact ih h.2 hp
theorem belowAll_of {n : Nat} {l : List PV} (h : ∀ p ∈ l,below n p = true) : below.belowAll n l = true := by
 induction l with
 | nil => rfl
 | cons x r ih => simp only [below.belowAll,Bool.and_eq_true]; exact ⟨h x (by simp),ih fun p hp => h p (by simp [hp])⟩
end Go.Ev


namespace Go.Ev
variable [CodeRel]
def own (κ : Kn) (σ : Sto) (i : Nat) : Option Nat :=
 match σ[i]? with
 | some (.var _) => some (κ.ρ i).1
 | some (.arr _ _ _) => some (κ.ρ i).1
 | some (.mp _) => some (κ.ρ i).1
 | some (.loop ..) => some (κ.ρ i).1
 | some (.tok _ _) => (κ.tok i).map (·.1)
 | some (.pt ..) => some (κ.ρ i).1
 | some (.bld ..) => some (κ.ρ i).1
 | some (.barr _ v _) => if v = 0 then none else some (κ.ρ i).1
 | _ => none
def RelEnts (κ : Kn) : List (Value × PV) → List MapEntry → Prop
 | [],l => l = []
 | p :: r,l => ∃ e l',l = e :: l' ∧ e.key = p.1 ∧ RelV κ p.2 e.val ∧ RelEnts κ r l'
def Born (l : List MapEntry) (clock : Nat) : Prop := (∀ x ∈ l,x.born < clock) ∧ (l.map (·.born)).Nodup
def obBelow (n : Nat) : Ob → Bool
 | .var cs => below.belowAll n cs
 | .tok _ _ => true
 | .arr _ _ es => below.belowEs 0 es
 | .mp m => m.all fun p => below 0 p.2
 | .loop env .. => env.all fun p => below n p.2
 | .dead => true
 | .pt _ _ es z => below.belowEs 0 es && below.belowAll 0 z
 | .bld _ _ x j => below n x && decide (j < n)
 | .barr .. => true
def stOf : Nat → LoopState
 | 0 => .ready
 | 1 => .busy
 | 2 => .done
 | _ => .exhausted
def pendC : Option (Option Nat) → Option Code
 | none => none
 | some none => some .ret
 | some (some id) => some (.exit id)
def LoopRel (κ : Kn) (env : Env) (ps : List Nat) (asg bd : IC) (st : Nat) (pend : Option (Option Nat)) (r : Loop) : Prop :=
 r.params.toList = ps ∧ r.state = stOf st ∧ r.pending = pendC pend ∧ (∀ s v,look env s = some v → RelV κ v (r.tmps.getD s undef) ∧ s < r.tmps.size) ∧ CodeRel.cd asg r.assign r.tmps.size ∧ CodeRel.cd bd r.body r.tmps.size ∧ ∀ p ∈ ps,p < r.tmps.size
def obRel (κ : Kn) (w : World) (i : Nat) : Ob → Prop
 | .var cs => κ.gen i = 1 ∧ (κ.ρ i).2 = 0 ∧ (∃ c T,w.heap[(κ.ρ i).1]? = some (.cells c T (0,0)) ∧ RelL κ cs c.toList ∧ ∀ v ∈ c.toList,v.oneCell' = true) ∧ ∀ o,κ.M (κ.ρ i).1 o = none
 | .arr ver esz es => κ.gen i = ver ∧ κ.esz i = esz ∧ (∃ c T,w.heap[(κ.ρ i).1]? = some (.cells c T (0,0)) ∧ (∀ e ∈ es,e.length = esz) ∧ (∀ v ∈ c.toList,v.oneCell' = true) ∧
   (∃ pre post vs,c.toList = pre ++ vs ++ post ∧ pre.length = (κ.ρ i).2 ∧ RelL κ es.flatten vs)) ∧ ∀ o,(κ.ρ i).2 ≤ o → κ.M (κ.ρ i).1 o = none
 | .tok esz n => κ.gen i = n ∧ κ.esz i = esz ∧ ∀ b e f,κ.tok i = some (b,e,f) → (∃ c T,w.heap[b]? = some (.cells c T (0,0)) ∧ e + f * esz ≤ c.size) ∧ ∀ o,e ≤ o → κ.M b o = none
 | .mp m => κ.gen i = 1 ∧ (∃ es clock,w.heap[(κ.ρ i).1]? = some (.map es clock) ∧ RelEnts κ m es.toList ∧ Born es.toList clock)
 | .loop env ps asg bd st pend => κ.gen i = 1 ∧ ∃ r,w.heap[(κ.ρ i).1]? = some (.loop r) ∧ LoopRel κ env ps asg bd st pend r
 | .dead => κ.gen i = 0
 | .pt ver esz es z => κ.gen i = ver ∧ κ.esz i = esz ∧ (∃ c T,w.heap[(κ.ρ i).1]? = some (.cells c T (0,0)) ∧ z.length = esz ∧ RelE κ esz (κ.ρ i).1 (κ.ρ i).2 es ∧
   ∃ pre post vs,c.toList = pre ++ vs ++ post ∧ pre.length = (κ.ρ i).2 + es.length * esz ∧ RelL κ z vs ∧ ∀ v ∈ vs,v.oneCell' = true) ∧ ∀ o,(κ.ρ i).2 + es.length * esz ≤ o → κ.M (κ.ρ i).1 o = none
 | .bld T used x _ => κ.gen i = 1 ∧ (κ.ρ i).2 = 0 ∧ (∃ v,w.heap[(κ.ρ i).1]? = some (.cells #[if used then .pointer (some ⟨(κ.ρ i).1,0,none⟩) else .pointer none,v] T (0,0)) ∧ RelV κ x v ∧ v.oneCell' = true) ∧ ∀ o,κ.M (κ.ρ i).1 o = none
 | .barr T ver s => κ.gen i = ver ∧ κ.esz i = 1 ∧ (ver = 0 → s.size = 0) ∧ (ver ≠ 0 → (∃ c,w.heap[(κ.ρ i).1]? = some (.cells c T (0,0)) ∧ (κ.ρ i).2 = 0 ∧ (∀ v ∈ c.toList,v.oneCell' = true) ∧ ∃ post,c.toList = (s.data.toList.map fun b => Value.int .u8 b.toNat) ++ post) ∧ ∀ o,κ.M (κ.ρ i).1 o = none)
structure INV (bars : List Nat) (κ : Kn) (σ : Sto) (w : World) : Prop where
 obs : ∀ (i : Nat) (ob : Ob),σ[i]? = some ob → obRel κ w i ob
 inj : ∀ i j b,own κ σ i = some b → own κ σ j = some b → i = j
 mem : ∀ b o v,κ.M b o = some v → w.cell? ⟨b,o,none⟩ = some v
 cap : ∀ b,0 < κ.cap b → ∃ c T fr,w.heap[b]? = some (.cells c T fr) ∧ κ.cap b ≤ c.size
 wf : ∀ (i : Nat) (ob : Ob),σ[i]? = some ob → obBelow σ.length ob = true
 wfb : ∀ n ∈ bars,n ≤ σ.length ∧ ∀ (i : Nat) (ob : Ob),i < n → σ[i]? = some ob → obBelow n ob = true
structure Kept (n : Nat) (κ : Kn) (σ : Sto) (w : World) (κ' : Kn) (σ' : Sto) (w' : World) : Prop where
 ext : Ext n κ κ'
 size : w.heap.size ≤ w'.heap.size
 keep : ∀ b,b < w.heap.size → (∀ i,own κ σ i ≠ some b) → w'.heap[b]? = w.heap[b]?
 own : ∀ i b,own κ' σ' i = some b → (∃ j,own κ σ j = some b) ∨ w.heap.size ≤ b
 M : ∀ b o v,κ'.M b o = some v → κ.M b o = some v ∨ (∃ j,Go.Ev.own κ σ j = some b) ∨ w.heap.size ≤ b
 os : w'.os = w.os
 output : w'.output = w.output
 tape : w'.tape = w.tape
theorem Kept.refl (n : Nat) (κ : Kn) (σ : Sto) (w : World) : Kept n κ σ w κ σ w :=
 ⟨Ext.refl n κ,Nat.le_refl _,fun _ _ _ => rfl,fun i b h => .inl ⟨i,h⟩,fun _ _ _ h => .inl h,rfl,rfl,rfl⟩
theorem Kept.trans {n m : Nat} {κ κ' κ'' : Kn} {σ σ' σ'' : Sto} {w w' w'' : World} (h : Kept n κ σ w κ' σ' w') (h' : Kept m κ' σ' w' κ'' σ'' w'') (hnm : n ≤ m) : Kept n κ σ w κ'' σ'' w'' := by
 refine ⟨h.ext.trans h'.ext hnm,Nat.le_trans h.size h'.size,fun b hb hno => ?_,fun i b hi => ?_,fun b o v hm => ?_,by rw [h'.os,h.os],by rw [h'.output,h.output],by rw [h'.tape,h.tape]⟩
 ·rw [h'.keep b (Nat.lt_of_lt_of_le hb h.size) (fun i hi => ?_),h.keep b hb hno]
  rcases h.own i b hi with ⟨j,hj⟩ | hge
  ·exact hno j hj
  ·omega
 ·rcases h'.own i b hi with ⟨j,hj⟩ | hge
  ·exact h.own j b hj
  ·exact .inr (Nat.le_trans h.size hge)
 ·rcases h'.M b o v hm with hm | ⟨j,hj⟩ | hge
  ·exact h.M b o v hm
  ·exact .inr (h.own j b hj)
  ·exact .inr (.inr (Nat.le_trans h.size hge))
theorem own_lt {bars : List Nat} {κ : Kn} {σ : Sto} {w : World} (h : INV bars κ σ w) {i b : Nat} (hi : own κ σ i = some b) : b < w.heap.size := by
 have lt : ∀ {b : Nat} {o : Obj},w.heap[b]? = some o → b < w.heap.size := fun hb => (Array.getElem?_eq_some_iff.1 hb).1
 unfold own at hi
 cases hs : σ[i]? with
 | none => rw [hs] at hi; cases hi
 | some ob =>
  rw [hs] at hi
  have ho := h.obs i ob hs
  cases ob with
  | var cs => obtain ⟨_,_,⟨c,T,hc,_⟩,_⟩ := ho; cases hi; exact lt hc
  | arr v k es => obtain ⟨_,_,⟨c,T,hc,_⟩,_⟩ := ho; cases hi; exact lt hc
  | mp m => obtain ⟨_,es,cl,hc,_⟩ := ho; cases hi; exact lt hc
  | tok k n =>
   obtain ⟨_,_,ht⟩ := ho
   simp only [Option.map_eq_some_iff] at hi
   obtain ⟨⟨b',e,f⟩,hk,rfl⟩ := hi
   obtain ⟨⟨c,T,hc,_⟩,_⟩ := ht b' e f hk
   exact lt hc
  | loop => obtain ⟨_,r,hc,_⟩ := ho; cases hi; exact lt hc
  | dead => cases hi
  | pt => obtain ⟨_,_,⟨c,T,hc,_⟩,_⟩ := ho; cases hi; exact lt hc
  | bld => obtain ⟨_,_,⟨v,hc,_⟩,_⟩ := ho; cases hi; exact lt hc
  | barr T ver s =>
   obtain ⟨_,_,_,ht⟩ := ho
   simp only at hi
   split at hi
   ·cases hi
   ·rename_i hv
    obtain ⟨⟨c,hc,_⟩,_⟩ := ht hv
    cases hi; exact lt hc
def Kn.at (κ : Kn) (i b : Nat) : Kn :=
 { κ with ρ := fun j => if j = i then (b,0) else κ.ρ j,gen := fun j => if j = i then 1 else κ.gen j,tok := fun j => if j = i then none else κ.tok j }
theorem Ext.at (κ : Kn) (i b : Nat) : Ext i κ (κ.at i b) := by
 refine ⟨fun id hid _ => ?_,fun id hid => rfl,fun id hid => ?_,fun id hid _ => ?_,fun _ _ _ h => h,fun _ => Nat.le_refl _⟩ <;>
  simp [Kn.at,Nat.ne_of_lt hid]
theorem RelL.length {κ : Kn} : ∀ {l : List PV} {x : List Value},RelL κ l x → l.length = x.length
 | [],x,h => by simp only [RelL] at h; subst h; rfl
 | p :: r,x,h => by
  simp only [RelL] at h
  obtain ⟨v,l',rfl,_,hl⟩ := h
  simp [RelL.length hl]
theorem heap_push_lt {w : World} {o : Obj} {b : Nat} (hb : b < w.heap.size) : (w.heap.push o)[b]? = w.heap[b]? := by
 rw [Array.getElem?_push]; simp [Nat.ne_of_lt hb]
theorem cell_lt {w : World} {a : Addr} {v : Value} (h : w.cell? a = some v) : a.block < w.heap.size := by
 unfold World.cell? at h
 split at h
 ·rename_i c T fr hc; exact (Array.getElem?_eq_some_iff.1 hc).1
 ·cases h
theorem INV.M_fresh {bars : List Nat} {κ : Kn} {σ : Sto} {w : World} (h : INV bars κ σ w) {b : Nat} (hb : w.heap.size ≤ b) (o : Nat) : κ.M b o = none := by
 cases hm : κ.M b o with
 | none => rfl
 | some v =>
  have := cell_lt (h.mem b o v hm)
  simp at this; omega
theorem RelEnts.mono {n : Nat} {κ κ' : Kn} (h : Ext n κ κ') : ∀ (m : List (Value × PV)) (l : List MapEntry),(m.all fun p => below 0 p.2) = true → RelEnts κ m l → RelEnts κ' m l
 | [],l,_,hr => by simpa [RelEnts] using hr
 | p :: r,l,hb,hr => by
  simp only [List.all_cons,Bool.and_eq_true] at hb
  simp only [RelEnts] at *
  obtain ⟨e,l',hl,hk,hv,hr⟩ := hr
  exact ⟨e,l',hl,hk,RelV.mono h _ _ (below_mono (Nat.zero_le _) _ hb.1) hv,RelEnts.mono h r l' hb.2 hr⟩
def blkOf (κ : Kn) (i : Nat) : Ob → Option Nat
 | .var _ => some (κ.ρ i).1
 | .arr _ _ _ => some (κ.ρ i).1
 | .mp _ => some (κ.ρ i).1
 | .loop .. => some (κ.ρ i).1
 | .tok _ _ => (κ.tok i).map (·.1)
 | .dead => none
 | .pt .. => some (κ.ρ i).1
 | .bld .. => some (κ.ρ i).1
 | .barr _ v _ => if v = 0 then none else some (κ.ρ i).1
theorem own_eq {κ : Kn} {σ : Sto} {i : Nat} {ob : Ob} (h : σ[i]? = some ob) : own κ σ i = blkOf κ i ob := by
 unfold own; rw [h]; cases ob <;> rfl
theorem look_below {n : Nat} : ∀ {env : Env} {s : Nat} {v : PV},(∀ a b,(a,b) ∈ env → below n b = true) → look env s = some v → below n v = true
 | [],_,_,_,h => by simp [look] at h
 | (t,u) :: r,s,v,hb,h => by
  simp only [look] at h
  split at h
  ·cases h; exact hb t u (by simp)
  ·exact look_below (fun a b hm => hb a b (by simp [hm])) h
theorem obRel.keep {κ κ' : Kn} {w w' : World} {i n : Nat} {ob : Ob} (he : Ext n κ κ') (hi : i < n) (hg : κ'.gen i = κ.gen i) (hb : obBelow n ob = true)
  (hk : ∀ b,blkOf κ i ob = some b → w'.heap[b]? = w.heap[b]? ∧ ∀ o,κ'.M b o = κ.M b o) (h : obRel κ w i ob) : obRel κ' w' i ob := by
 cases ob with
 | var cs =>
  obtain ⟨h1,h2,⟨c,T,hc,hr,h3⟩,h4⟩ := h
  obtain ⟨k1,k2⟩ := hk _ rfl
  refine ⟨by rw [hg]; exact h1,by rw [he.ρ i hi hg]; exact h2,⟨c,T,?_,RelL.mono he _ _ (by simpa [obBelow] using hb) hr,h3⟩,fun o => ?_⟩
  ·rw [he.ρ i hi hg,k1]; exact hc
  ·rw [he.ρ i hi hg,k2]; exact h4 o
 | arr ver k es =>
  obtain ⟨h1,h1',⟨c,T,hc,h2,h3,pre,post,vs,h5,h6,h7⟩,h4⟩ := h
  obtain ⟨k1,k2⟩ := hk _ rfl
  have hb0 : below.belowAll n es.flatten = true := by
   rw [belowEs_flatten]; exact belowEs_mono (Nat.zero_le _) _ (by simpa [obBelow] using hb)
  refine ⟨by rw [hg]; exact h1,by rw [he.esz i hi]; exact h1',⟨c,T,?_,h2,h3,pre,post,vs,h5,by rw [he.ρ i hi hg]; exact h6,RelL.mono he _ _ hb0 h7⟩,fun o ho => ?_⟩
  ·rw [he.ρ i hi hg,k1]; exact hc
  ·rw [he.ρ i hi hg] at ho ⊢; rw [k2]; exact h4 o ho
 | tok k m =>
  obtain ⟨h1,h1',h2⟩ := h
  refine ⟨by rw [hg]; exact h1,by rw [he.esz i hi]; exact h1',fun b e f hk' => ?_⟩
  rw [he.tok i hi hg] at hk'
  obtain ⟨k1,k2⟩ := hk b (by simp [blkOf,hk'])
  obtain ⟨⟨c,T,hc,hs⟩,hm⟩ := h2 b e f hk'
  exact ⟨⟨c,T,by rw [k1]; exact hc,hs⟩,fun o ho => by rw [k2]; exact hm o ho⟩
 | mp m =>
  obtain ⟨h1,es,cl,hc,hr,hbo⟩ := h
  obtain ⟨k1,k2⟩ := hk _ rfl
  exact ⟨by rw [hg]; exact h1,es,cl,by rw [he.ρ i hi hg,k1]; exact hc,RelEnts.mono he m _ (by simpa [obBelow] using hb) hr,hbo⟩
 | loop env ps asg bd st pend =>
  obtain ⟨h1,r,hc,g1,g2,g3,g4,g5,g6⟩ := h
  obtain ⟨k1,k2⟩ := hk _ rfl
  refine ⟨by rw [hg]; exact h1,r,by rw [he.ρ i hi hg,k1]; exact hc,g1,g2,g3,fun s v hs => ⟨RelV.mono he _ _ (look_below (by simpa [obBelow] using hb) hs) (g4 s v hs).1,(g4 s v hs).2⟩,g5,g6⟩
 | dead => exact hg.trans h
 | pt ver k es z =>
  obtain ⟨h1,h1',⟨c,T,hc,h2,h3,pre,post,vs,h5,h6,h7,h8⟩,h4⟩ := h
  obtain ⟨k1,k2⟩ := hk _ rfl
  simp only [obBelow,Bool.and_eq_true] at hb
  refine ⟨by rw [hg]; exact h1,by rw [he.esz i hi]; exact h1',⟨c,T,?_,h2,?_,pre,post,vs,h5,by rw [he.ρ i hi hg]; exact h6,RelL.mono he _ _ (belowAll_mono (Nat.zero_le _) _ hb.2) h7,h8⟩,fun o ho => ?_⟩
  ·rw [he.ρ i hi hg,k1]; exact hc
  ·rw [he.ρ i hi hg]; exact RelE.mono he _ _ _ _ (belowEs_mono (Nat.zero_le _) _ hb.1) h3
  ·rw [he.ρ i hi hg] at ho ⊢; rw [k2]; exact h4 o ho
 | bld T used x j =>
  obtain ⟨h1,h2,⟨v,hc,h3,h4⟩,h5⟩ := h
  obtain ⟨k1,k2⟩ := hk _ rfl
  simp only [obBelow,Bool.and_eq_true] at hb
  refine ⟨by rw [hg]; exact h1,by rw [he.ρ i hi hg]; exact h2,⟨v,?_,RelV.mono he _ _ hb.1 h3,h4⟩,fun o => ?_⟩
  ·rw [he.ρ i hi hg,k1]; exact hc
  ·rw [he.ρ i hi hg,k2]; exact h5 o
 | barr T ver s =>
  obtain ⟨h1,h1',h0,h⟩ := h
  refine ⟨by rw [hg]; exact h1,by rw [he.esz i hi]; exact h1',h0,fun hv => ?_⟩
  obtain ⟨⟨c,hc,h2,h3,h4⟩,h5⟩ := h hv
  obtain ⟨k1,k2⟩ := hk (κ.ρ i).1 (by simp [blkOf,hv])
  refine ⟨⟨c,?_,by rw [he.ρ i hi hg]; exact h2,h3,h4⟩,fun o => ?_⟩
  ·rw [he.ρ i hi hg,k1]; exact hc
  ·rw [he.ρ i hi hg,k2]; exact h5 o
theorem obBelow_mono {n m : Nat} (h : n ≤ m) (ob : Ob) (hb : obBelow n ob = true) : obBelow m ob = true := by
 cases ob with
 | var cs => exact belowAll_mono h cs hb
 | tok _ _ => rfl
 | arr _ _ es => exact hb
 | mp l => exact hb
 | loop env ps a b s p =>
  simp only [obBelow,List.all_eq_true] at *
  exact fun x hx => below_mono h _ (hb x hx)
 | dead => rfl
 | pt => exact hb
 | bld T u x j =>
  simp only [obBelow,Bool.and_eq_true,decide_eq_true_eq] at hb ⊢
  exact ⟨below_mono h _ hb.1,Nat.lt_of_lt_of_le hb.2 h⟩
 | barr => rfl
theorem INV.push_var {bars : List Nat} {κ : Kn} {σ : Sto} {w : World} (h : INV bars κ σ w) {cs : List PV} {c : Array Value} {T : TypeId} (hr : RelL κ cs c.toList) (h1 : ∀ v ∈ c.toList,v.oneCell' = true) (hb : below.belowAll σ.length cs = true) :
  INV bars (κ.at σ.length w.heap.size) (σ ++ [.var cs]) { w with heap := w.heap.push (.cells c T) } ∧
   Kept σ.length κ σ w (κ.at σ.length w.heap.size) (σ ++ [.var cs]) { w with heap := w.heap.push (.cells c T) } := by
 have hext := Ext.at κ σ.length w.heap.size
 have hgen : ∀ i,i < σ.length → (κ.at σ.length w.heap.size).gen i = κ.gen i := fun i hi => by simp [Kn.at,Nat.ne_of_lt hi]
 have hget : ∀ i ob,(σ ++ [Ob.var cs])[i]? = some ob → (i < σ.length ∧ σ[i]? = some ob) ∨ (i = σ.length ∧ ob = .var cs) := by
  intro i ob hi
  rcases Nat.lt_or_ge i σ.length with hlt | hge
  ·rw [List.getElem?_append_left hlt] at hi; exact .inl ⟨hlt,hi⟩
  ·rw [List.getElem?_append_right hge] at hi
   obtain hz | hz : i - σ.length = 0 ∨ 0 < i - σ.length := by omega
   ·rw [hz] at hi; simp at hi; exact .inr ⟨by omega,hi.symm⟩
   ·rw [List.getElem?_eq_none (by simp; omega)] at hi; cases hi
 have hown : ∀ i b,own (κ.at σ.length w.heap.size) (σ ++ [.var cs]) i = some b → (i < σ.length ∧ own κ σ i = some b) ∨ (i = σ.length ∧ b = w.heap.size) := by
  intro i b hi
  cases hs : (σ ++ [Ob.var cs])[i]? with
  | none => unfold own at hi; rw [hs] at hi; cases hi
  | some ob =>
   rw [own_eq hs] at hi
   rcases hget i ob hs with ⟨hlt,hs'⟩ | ⟨rfl,rfl⟩
   ·refine .inl ⟨hlt,?_⟩
    rw [own_eq hs']
    cases ob <;> first | (simpa [blkOf,Kn.at,Nat.ne_of_lt hlt] using hi) | (simp [blkOf] at hi)
   ·simp [blkOf,Kn.at] at hi; exact .inr ⟨rfl,hi.symm⟩
 refine ⟨⟨fun i ob hi => ?_,fun i j b hi hj => ?_,fun b o v hm => ?_,fun b hc => ?_,fun i ob hi => ?_,fun n hn => ?_⟩,⟨hext,by simp,fun b hlt _ => heap_push_lt hlt,fun i b hi => ?_,fun _ _ _ h => .inl h,rfl,rfl,rfl⟩⟩
 ·rcases hget i ob hi with ⟨hlt,hs⟩ | ⟨rfl,rfl⟩
  ·refine obRel.keep hext hlt (hgen i hlt) (h.wf i ob hs) (fun b hb' => ⟨heap_push_lt ?_,fun o => rfl⟩) (h.obs i ob hs)
   exact own_lt h (by rw [own_eq hs]; exact hb')
  ·refine ⟨by simp [Kn.at],by simp [Kn.at],⟨c,T,by simp [Kn.at],RelL.mono hext _ _ hb hr,h1⟩,fun o => ?_⟩
   simp only [Kn.at,if_true]
   exact h.M_fresh (Nat.le_refl _) o
 ·rcases hown i b hi with ⟨hlt,h2⟩ | ⟨hi1,hi2⟩ <;> rcases hown j b hj with ⟨hlt',h3⟩ | ⟨hj1,hj2⟩
  ·exact h.inj i j b h2 h3
  ·have := own_lt h h2; omega
  ·have := own_lt h h3; omega
  ·omega
 ·have hlt := cell_lt (h.mem b o v hm)
  have := h.mem b o v hm
  simp only [World.cell?,heap_push_lt hlt] at this ⊢
  exact this
 ·obtain ⟨c',T',fr,hc',hsz⟩ := h.cap b hc
  exact ⟨c',T',fr,by rw [heap_push_lt (Array.getElem?_eq_some_iff.1 hc').1]; exact hc',hsz⟩
 ·rcases hget i ob hi with ⟨hlt,hs⟩ | ⟨rfl,rfl⟩
  ·exact obBelow_mono (by simp) ob (h.wf i ob hs)
  ·exact belowAll_mono (by simp) cs hb
 ·obtain ⟨hle,hw⟩ := h.wfb n hn
  refine ⟨by simp; omega,fun i ob hin hi => ?_⟩
  rcases hget i ob hi with ⟨hlt,hs⟩ | ⟨rfl,rfl⟩
  ·exact hw i ob hin hs
  ·omega
 ·rcases hown i b hi with ⟨hlt,h2⟩ | ⟨rfl,rfl⟩
  ·exact .inl ⟨i,h2⟩
  ·exact .inr (Nat.le_refl _)
theorem INV.one {bars : List Nat} {κ κ' : Kn} {σ σ' : Sto} {w w' : World} (h : INV bars κ σ w) (i : Nat) (ob : Ob) (hi : i ≤ σ.length)
  (hlen : σ'.length = max σ.length (i + 1)) (hget : σ'[i]? = some ob) (hoth : ∀ j,j ≠ i → σ'[j]? = σ[j]?)
  (he : Ext σ.length κ κ') (hgen : ∀ j,j < σ.length → j ≠ i → κ'.gen j = κ.gen j)
  (hsize : w.heap.size ≤ w'.heap.size) (hkeep : ∀ b,b < w.heap.size → own κ σ i ≠ some b → w'.heap[b]? = w.heap[b]?)
  (hM : ∀ b,b < w.heap.size → own κ σ i ≠ some b → ∀ o,κ'.M b o = κ.M b o)
  (hob : obRel κ' w' i ob) (hblk : ∀ b,blkOf κ' i ob = some b → own κ σ i = some b ∨ w.heap.size ≤ b)
  (hmem : ∀ b o v,κ'.M b o = some v → w'.cell? ⟨b,o,none⟩ = some v)
  (hcap : ∀ b,0 < κ'.cap b → ∃ c T fr,w'.heap[b]? = some (.cells c T fr) ∧ κ'.cap b ≤ c.size)
  (hwf : obBelow σ'.length ob = true) (hwfb : ∀ n ∈ bars,i < n → obBelow n ob = true)
  (hos : w'.os = w.os) (hout : w'.output = w.output) (htape : w'.tape = w.tape) :
  INV bars κ' σ' w' ∧ Kept σ.length κ σ w κ' σ' w' := by
 have hold : ∀ j ob',j ≠ i → σ'[j]? = some ob' → j < σ.length ∧ σ[j]? = some ob' := by
  intro j ob' hj hs
  rw [hoth j hj] at hs
  exact ⟨(List.getElem?_eq_some_iff.1 hs).1,hs⟩
 have hownj : ∀ j b,j ≠ i → own κ' σ' j = some b → own κ σ j = some b := by
  intro j b hj hb
  cases hs : σ'[j]? with
  | none => unfold own at hb; rw [hs] at hb; cases hb
  | some ob' =>
   obtain ⟨hlt,hs'⟩ := hold j ob' hj hs
   rw [own_eq hs] at hb
   rw [own_eq hs']
   have hg := hgen j hlt hj
   cases ob' <;> first
    | (simp only [blkOf] at hb ⊢; rw [← hb,he.ρ j hlt hg])
    | (simp only [blkOf] at hb ⊢; rw [← hb,he.tok j hlt hg])
    | (simp [blkOf] at hb)
 have howni : ∀ b,own κ' σ' i = some b → own κ σ i = some b ∨ w.heap.size ≤ b := fun b hb => hblk b (by rw [← own_eq hget]; exact hb)
 refine ⟨⟨fun j ob' hs => ?_,fun j k b hj hk => ?_,hmem,hcap,fun j ob' hs => ?_,fun n hn => ?_⟩,⟨he,hsize,fun b hb hno => hkeep b hb (hno i),fun j b hb => ?_,fun b o v hm => ?_,hos,hout,htape⟩⟩
 ·by_cases hj : j = i
  ·subst hj
   rw [hget] at hs; cases hs; exact hob
  ·obtain ⟨hlt,hs'⟩ := hold j ob' hj hs
   refine obRel.keep he hlt (hgen j hlt hj) (h.wf j ob' hs') (fun b hb => ?_) (h.obs j ob' hs')
   have hbj : own κ σ j = some b := by rw [own_eq hs']; exact hb
   have hno : own κ σ i ≠ some b := fun hb' => hj (h.inj j i b hbj hb')
   exact ⟨hkeep b (own_lt h hbj) hno,hM b (own_lt h hbj) hno⟩
 ·by_cases hj' : j = i
  ·by_cases hk' : k = i
   ·omega
   ·subst hj'
    have h2 := hownj k b hk' hk
    rcases howni b hj with h1 | h1
    ·exact h.inj j k b h1 h2
    ·have := own_lt h h2; omega
  ·have h1 := hownj j b hj' hj
   by_cases hk' : k = i
   ·subst hk'
    rcases howni b hk with h2 | h2
    ·exact h.inj j k b h1 h2
    ·have := own_lt h h1; omega
   ·exact h.inj j k b h1 (hownj k b hk' hk)
 ·by_cases hj : j = i
  ·subst hj
   rw [hget] at hs; cases hs; exact hwf
  ·obtain ⟨hlt,hs'⟩ := hold j ob' hj hs
   exact obBelow_mono (by omega) ob' (h.wf j ob' hs')
 ·obtain ⟨hle,hw⟩ := h.wfb n hn
  refine ⟨by omega,fun j ob' hjn hs => ?_⟩
  by_cases hj : j = i
  ·subst hj
   rw [hget] at hs; cases hs; exact hwfb n hn hjn
  ·obtain ⟨hlt,hs'⟩ := hold j ob' hj hs
   exact hw j ob' hjn hs'
 ·by_cases hj : j = i
  ·subst hj
   rcases howni b hb with h1 | h1
   ·exact .inl ⟨j,h1⟩
   ·exact .inr h1
  ·exact .inl ⟨j,hownj j b hj hb⟩
 ·rcases Nat.lt_or_ge b w.heap.size with hlt | hge
  ·by_cases ho : own κ σ i = some b
   ·exact .inr (.inl ⟨i,ho⟩)
   ·exact .inl (by rw [← hM b hlt ho o]; exact hm)
  ·exact .inr (.inr hge)
theorem INV.more {bars : List Nat} {κ κ' : Kn} {σ : Sto} {w w' : World} (h : INV bars κ σ w)
  (he : Ext σ.length κ κ') (hgen : ∀ j,j < σ.length → κ'.gen j = κ.gen j)
  (hsize : w.heap.size ≤ w'.heap.size) (hkeep : ∀ b,b < w.heap.size → w'.heap[b]? = w.heap[b]?)
  (hM : ∀ b,b < w.heap.size → ∀ o,κ'.M b o = κ.M b o)
  (hmem : ∀ b o v,κ'.M b o = some v → w'.cell? ⟨b,o,none⟩ = some v)
  (hcap : ∀ b,0 < κ'.cap b → ∃ c T fr,w'.heap[b]? = some (.cells c T fr) ∧ κ'.cap b ≤ c.size)
  (hos : w'.os = w.os) (hout : w'.output = w.output) (htape : w'.tape = w.tape) :
  INV bars κ' σ w' ∧ Kept σ.length κ σ w κ' σ w' := by
 have hown : ∀ j,own κ' σ j = own κ σ j := by
  intro j
  cases hs : σ[j]? with
  | none => unfold own; rw [hs]
  | some ob =>
   have hlt := (List.getElem?_eq_some_iff.1 hs).1
   rw [own_eq hs,own_eq hs]
   cases ob <;> simp only [blkOf] <;> first | rw [he.ρ j hlt (hgen j hlt)] | rw [he.tok j hlt (hgen j hlt)]
 refine ⟨⟨fun j ob hs => ?_,fun j k b hj hk => h.inj j k b (by rw [← hown]; exact hj) (by rw [← hown]; exact hk),hmem,hcap,h.wf,h.wfb⟩,⟨he,hsize,fun b hb _ => hkeep b hb,fun j b hb => .inl ⟨j,by rw [← hown]; exact hb⟩,fun b o v hm => by
  rcases Nat.lt_or_ge b w.heap.size with hlt | hge
  ·exact .inl (by rw [← hM b hlt o]; exact hm)
  ·exact .inr (.inr hge),hos,hout,htape⟩⟩
 have hlt := (List.getElem?_eq_some_iff.1 hs).1
 refine obRel.keep he hlt (hgen j hlt) (h.wf j ob hs) (fun b hb => ?_) (h.obs j ob hs)
 have hbj : own κ σ j = some b := by rw [own_eq hs]; exact hb
 exact ⟨hkeep b (own_lt h hbj),hM b (own_lt h hbj)⟩
end Go.Ev


namespace Go.Ev
variable [CodeRel]
def eqK : Value → Value → Bool
 | .int j a,.int l b => decide (j = l) && decide (a = b)
 | .bool a,.bool b => decide (a = b)
 | .string a,.string b => decide (a.data.toList = b.data.toList)
 | .pointer none,.pointer none => true
 | .nilFunc,.nilFunc => true
 | .nilIface,.nilIface => true
 | .map none,.map none => true
 | _,_ => false
theorem int_beq_decide (m n : Int) : (m == n) = decide (m = n) := by
 rw [Bool.eq_iff_iff]; simp
theorem eqK_spec {x v : Value} (h : eqK x v = true) : v = x := by
 unfold eqK at h
 split at h <;> simp_all
 rename_i a b
 cases a; cases b; simp_all [Array.toList_inj]
mutual
def eqC : PV → Value → Bool
 | .k x,v => eqK x v
 | .sl t es,v => match v with
  | .slice none 0 0 => es.isEmpty
  | _ => false
 | .agg cs,v => match v with
  | .agg vs => eqCs cs vs.toList && vs.toList.all Value.oneCell'
  | _ => false
 | .tup cs,v => match v with
  | .tuple vs => eqCs cs vs.toList
  | _ => false
 | .fn f cap,v => match f,cap,v with
  | .func f,[],.func (.func g) a b => f == g && a.isEmpty && b.isEmpty
  | _,_,_ => false
 | _,_ => false
def eqCs : List PV → List Value → Bool
 | [],l => l.isEmpty
 | p :: r,l => match l with
  | v :: l => eqC p v && eqCs r l
  | [] => false
end
mutual
theorem eqC_spec (κ : Kn) (n : Nat) : ∀ (p : PV) (v : Value),eqC p v = true → RelV κ p v ∧ below n p = true
 | .k x,v,h => ⟨eqK_spec h,rfl⟩
 | .ptr _ _,v,h => by simp [eqC] at h
 | .pa _ _ _ _,v,h => by simp [eqC] at h
 | .pe _ _,v,h => by simp [eqC] at h
 | .ow _ _ _,v,h => by simp [eqC] at h
 | .rs _ _ _ _,v,h => by simp [eqC] at h
 | .map _,v,h => by simp [eqC] at h
 | .iface _ _,v,h => by simp [eqC] at h
 | .sl t es,v,h => by
  simp only [eqC] at h
  split at h
  ·simp at h; subst h
   exact ⟨⟨none,0,0,by simp,by simp,by simp,by simp⟩,rfl⟩
  ·cases h
 | .agg cs,v,h => by
  simp only [eqC] at h
  split at h
  ·rename_i vs
   simp only [Bool.and_eq_true,List.all_eq_true] at h
   obtain ⟨h1,h2⟩ := eqCs_spec κ n cs vs.toList h.1
   exact ⟨⟨vs,rfl,h1,h.2⟩,h2⟩
  ·cases h
 | .tup cs,v,h => by
  simp only [eqC] at h
  split at h
  ·rename_i vs
   obtain ⟨h1,h2⟩ := eqCs_spec κ n cs vs.toList h
   exact ⟨⟨vs,rfl,h1⟩,h2⟩
  ·cases h
 | .fn f cap,v,h => by
  simp only [eqC] at h
  split at h
  ·simp at h
   obtain ⟨⟨rfl,rfl⟩,rfl⟩ := h
   exact ⟨⟨#[],rfl,rfl⟩,rfl⟩
  ·cases h
theorem eqCs_spec (κ : Kn) (n : Nat) : ∀ (p : List PV) (v : List Value),eqCs p v = true → RelL κ p v ∧ below.belowAll n p = true
 | [],l,h => by
  simp [eqCs] at h; subst h
  exact ⟨rfl,rfl⟩
 | p :: r,l,h => by
  simp only [eqCs] at h
  split at h
  ·rename_i v l
   simp only [Bool.and_eq_true] at h
   obtain ⟨h1,h2⟩ := eqC_spec κ n p v h.1
   obtain ⟨h3,h4⟩ := eqCs_spec κ n r l h.2
   exact ⟨⟨v,l,rfl,h1,h3⟩,by simp [below.belowAll,h2,h4]⟩
  ·cases h
end
def chkO : Opd → Operand → Bool
 | .t n,.tmp m => n == m
 | .c p,.const v => eqC p v
 | .c (.fn (.func f) []),.func g => f == g
 | _,_ => false
structure ENV (κ : Kn) (n : Nat) (env : Env) (tmps : Array Value) : Prop where
 rel : ∀ s v,look env s = some v → RelV κ v (tmps.getD s undef)
 wf : ∀ s v,look env s = some v → below n v = true
 lt : ∀ s v,look env s = some v → s < tmps.size
theorem chkO_spec {κ : Kn} {n : Nat} {env : Env} {a : Act} (h : ENV κ n env a.tmps) {x : Opd} {y : Operand} (hc : chkO x y = true) {v : PV} (he : ev env x = some v) : RelV κ v (a.eval y) ∧ below n v = true := by
 cases x with
 | t s =>
  cases y <;> simp [chkO] at hc
  subst hc
  simp only [ev] at he
  exact ⟨h.rel s v he,h.wf s v he⟩
 | c p =>
  simp only [ev,Option.some.injEq] at he
  subst he
  cases y with
  | tmp t => simp [chkO] at hc
  | const u => exact eqC_spec κ n p u (by cases p <;> simpa [chkO] using hc)
  | global g => simp [chkO] at hc
  | func g =>
   cases p <;> simp [chkO] at hc
   rename_i f cap
   cases f <;> cases cap <;> simp [chkO] at hc
   subst hc
   exact ⟨⟨#[],rfl,rfl⟩,rfl⟩
theorem relV_undef (κ : Kn) : RelV κ (.tup []) undef := ⟨#[],rfl,rfl⟩
def Goes (κ : Kn) (σ : Sto) (w : World) (res : Result Next) (f : FuncId) (xs : Array Value) : Prop :=
 (f < YB ∧ res = .ok (.enter f xs) w) ∨ ∃ l b,f = YB + l ∧ l < σ.length ∧ (κ.gen l = 1 → b = (κ.ρ l).1) ∧
  ∀ r : Loop,w.heap[b]? = some (.loop r) → xs.size = r.params.size → res = .ok (.round b r.fn ((r.params.zip xs).foldl (fun t (p,v) => t.setIfInBounds p v) r.tmps) r.assign r.body) w
def OpOK (bars : List Nat) (κ : Kn) (σ : Sto) (w : World) (res : Result Next) : OpR → Prop
 | .val v σ' => ∃ κ' w' x,(res = .ok (.value x) w' ∨ (res = .ok .skip w' ∧ x = undef)) ∧ RelV κ' v x ∧ below σ'.length v = true ∧ INV bars κ' σ' w' ∧ Kept σ.length κ σ w κ' σ' w' ∧ σ.length ≤ σ'.length
 | .call f args σ' => σ' = σ ∧ ∃ xs,Goes κ σ w res f xs ∧ RelL κ args xs.toList ∧ below.belowAll σ.length args = true
 | .pan v σ' => σ' = σ ∧ ∃ x,res = .halt (.panic x) w ∧ RelV κ v x ∧ below σ.length v = true
 | .dfr f args σ' => σ' = σ ∧ ∃ xs,res = .ok (.defer { target := .fn (.func f) #[],args := xs }) w ∧ RelL κ args xs.toList ∧ below.belowAll σ.length args = true
 | .rcv σ' => σ' = σ ∧ res = .ok .recover w
theorem opOK_val {bars : List Nat} {κ : Kn} {σ : Sto} {w : World} {res : Result Next} {v : PV} {x : Value} (hi : INV bars κ σ w) (hr : res = .ok (.value x) w) (hv : RelV κ v x) (hb : below σ.length v = true) : OpOK bars κ σ w res (.val v σ) :=
 ⟨κ,w,x,.inl hr,hv,hb,hi,Kept.refl _ _ _ _,Nat.le_refl _⟩
def szIs (P : Program) (t : TypeId) (n : Nat) : Bool := match P.info? t with | some i => i.size == n | none => false
def aggIs (P : Program) (t : TypeId) (b : Bool) : Bool := match P.underlying t with
 | some (.struct _) | some (.array _ _) => b
 | some _ => !b
 | none => false
section
variable {P : Program} {bars : List Nat} {κ : Kn} {σ : Sto} {w : World} {env : Env} {a : Act} {o : Oper} {r : OpR}
theorem sound_mov (hi : INV bars κ σ w) (he : ENV κ σ.length env a.tmps) {x : Opd} {y : Operand} (hc : chkO x y = true) (ho : o.op = .move y ∨ o.op = .assign y) (hr : opE bars env σ (.mov x) = some r) : OpOK bars κ σ w ((execOp a.eval o).run P w) r := by
 simp only [opE,Option.bind_eq_some_iff,Option.some.injEq] at hr
 obtain ⟨v,hv,rfl⟩ := hr
 obtain ⟨h1,h2⟩ := chkO_spec he hc hv
 refine opOK_val hi ?_ h1 h2
 rcases ho with ho | ho <;> simp [execOp,ho]
theorem sound_pick (hi : INV bars κ σ w) (he : ENV κ σ.length env a.tmps) {c x y : Opd} {c' x' y' : Operand} (hc : chkO c c' = true) (hx : chkO x x' = true) (hy : chkO y y' = true) (ho : o.op = .pick c' x' y') (hr : opE bars env σ (.pick c x y) = some r) : OpOK bars κ σ w ((execOp a.eval o).run P w) r := by
 simp only [opE] at hr
 split at hr
 ·rename_i hcv
  simp only [Option.bind_eq_some_iff,Option.some.injEq] at hr
  obtain ⟨v,hv,rfl⟩ := hr
  have hb := (chkO_spec he hc hcv).1
  simp only [RelV] at hb
  obtain ⟨h1,h2⟩ := chkO_spec he hx hv
  exact opOK_val hi (by simp [execOp,ho,hb,asBool]) h1 h2
 ·rename_i hcv
  simp only [Option.bind_eq_some_iff,Option.some.injEq] at hr
  obtain ⟨v,hv,rfl⟩ := hr
  have hb := (chkO_spec he hc hcv).1
  simp only [RelV] at hb
  obtain ⟨h1,h2⟩ := chkO_spec he hy hv
  exact opOK_val hi (by simp [execOp,ho,hb,asBool]) h1 h2
 ·cases hr
theorem sound_not (hi : INV bars κ σ w) (he : ENV κ σ.length env a.tmps) {x : Opd} {y : Operand} {t : TypeId} (hc : chkO x y = true) (ho : o.op = .unOp .not t y) (hr : opE bars env σ (.not x) = some r) : OpOK bars κ σ w ((execOp a.eval o).run P w) r := by
 simp only [opE,Option.bind_eq_some_iff,Option.some.injEq] at hr
 obtain ⟨v,hv,u,hu,rfl⟩ := hr
 obtain ⟨h1,h2⟩ := chkO_spec he hc hv
 unfold unE at hu
 split at hu
 ·cases hu
  simp only [RelV] at h1
  exact opOK_val hi (by simp [execOp,ho,h1,Op.unary]) rfl rfl
 ·cases hu
theorem sound_neg (hi : INV bars κ σ w) (he : ENV κ σ.length env a.tmps) {x : Opd} {y : Operand} {t : TypeId} (hc : chkO x y = true) (ho : o.op = .unOp .neg t y) (hr : opE bars env σ (.neg x) = some r) : OpOK bars κ σ w ((execOp a.eval o).run P w) r := by
 simp only [opE] at hr
 split at hr
 ·rename_i j n hv
  cases hr
  obtain ⟨h1,h2⟩ := chkO_spec he hc hv
  simp only [RelV] at h1
  exact opOK_val hi (x := .int j (j.wrap (-n))) (by simp [execOp,ho,h1,Op.unary,Op.intArith]) rfl rfl
 ·cases hr
theorem sound_bin (hi : INV bars κ σ w) (he : ENV κ σ.length env a.tmps) {op : BinOp} {x y : Opd} {x' y' : Operand} {t t' : TypeId} (hx : chkO x x' = true) (hy : chkO y y' = true) (ho : o.op = .binOp op t x' y' t') (hr : opE bars env σ (.bin op x y) = some r) : OpOK bars κ σ w ((execOp a.eval o).run P w) r := by
 simp only [opE,Option.bind_eq_some_iff,Option.some.injEq] at hr
 obtain ⟨u,hu,v,hv,z,hz,rfl⟩ := hr
 obtain ⟨h1,-⟩ := chkO_spec he hx hu
 obtain ⟨h2,-⟩ := chkO_spec he hy hv
 unfold binE at hz
 split at hz
 ·rename_i j m l n
  simp only [RelV] at h1 h2
  have hg : ∀ w,(eqGuard op t x' y' (.int j m) (.int l n)).run P w = .ok () w := fun w => by
   unfold eqGuard; split <;> simp
  by_cases hjl : j = l
  ·subst hjl
   rw [if_pos rfl] at hz
   cases op <;> simp only [] at hz <;> (try split at hz) <;> first
    | (cases hz; done)
    | (obtain rfl := Option.some.inj hz; refine opOK_val hi ?_ rfl rfl; simp [execOp,ho,h1,h2,hg,binOp,Op.intArith,Op.intCmp,Op.intBits,bne,int_beq_decide]; done)
    | (rename_i hb; obtain rfl := Option.some.inj hz; refine opOK_val hi ?_ rfl rfl; simp [execOp,ho,h1,h2,hg,binOp,Op.intDiv,Op.shift,hb]; done)
  ·rw [if_neg hjl] at hz
   cases op <;> simp only [] at hz <;> (try split at hz) <;> first
    | (cases hz; done)
    | (rename_i hb; obtain rfl := Option.some.inj hz; refine opOK_val hi ?_ rfl rfl; simp [execOp,ho,h1,h2,hg,binOp,Op.shift,hb]; done)
 ·rename_i m n
  simp only [RelV] at h1 h2
  have hg : ∀ w,(eqGuard op t x' y' (.string m) (.string n)).run P w = .ok () w := fun w => by
   unfold eqGuard; split <;> simp
  split at hz
  ·cases hz; refine opOK_val hi ?_ rfl rfl; simp [execOp,ho,h1,h2,hg,binOp,Op.stringOp]
  ·cases hz; refine opOK_val hi ?_ rfl rfl; simp [execOp,ho,h1,h2,hg,binOp,Op.stringOp]
  ·split at hz
   ·rename_i hlim
    cases hz
    refine opOK_val hi ?_ rfl rfl
    have hn : ¬ (((m.size + n.size : Nat) : Int) > IntKind.i64.max) := by
     unfold LIM at hlim; simp [IntKind.max,IntKind.bits,IntKind.signed]; omega
    simp only [Int.natCast_add,gt_iff_lt] at hn
    simp [execOp,ho,h1,h2,hg,binOp,Op.stringOp,hn]
    unfold LIM at hlim; omega
   ·cases hz
  ·cases hz
 ·cases hz
theorem sound_extr (hi : INV bars κ σ w) (he : ENV κ σ.length env a.tmps) {x : Opd} {y : Operand} {i : Nat} (hc : chkO x y = true) (ho : o.op = .extract y i) (hr : opE bars env σ (.extr i x) = some r) : OpOK bars κ σ w ((execOp a.eval o).run P w) r := by
 simp only [opE] at hr
 split at hr
 ·rename_i vs hv
  simp only [Option.bind_eq_some_iff,Option.some.injEq] at hr
  obtain ⟨v,hvi,rfl⟩ := hr
  obtain ⟨h1,h2⟩ := chkO_spec he hc hv
  simp only [RelV] at h1
  obtain ⟨us,hu,hl⟩ := h1
  have key : ∀ (l : List PV) (x : List Value) (i : Nat) (v : PV),RelL κ l x → l[i]? = some v → ∃ u,x[i]? = some u ∧ RelV κ v u := by
   intro l
   induction l with
   | nil => intro x i v _ h; simp at h
   | cons p r ih =>
    intro x i v hr h
    simp only [RelL] at hr
    obtain ⟨u,l',rfl,h3,h4⟩ := hr
    cases i with
    | zero => simp at h; subst h; exact ⟨u,by simp,h3⟩
    | succ i => simp at h ⊢; exact ih l' i v h4 h
  obtain ⟨u,hu1,hu2⟩ := key vs us.toList i v hl hvi
  have hu3 : us[i]? = some u := by rw [← Array.getElem?_toList]; exact hu1
  refine opOK_val hi (by simp [execOp,ho,hu,Instr.extract,hu3]) hu2 ?_
  simp only [below] at h2
  exact belowAll_mem h2 (List.mem_of_getElem? hvi)
 ·cases hr
end
end Go.Ev


namespace Go.Ev
variable [CodeRel]
theorem RelL.get {κ : Kn} : ∀ {l : List PV} {x : List Value} {i : Nat} {v : PV},RelL κ l x → l[i]? = some v → ∃ u,x[i]? = some u ∧ RelV κ v u
 | [],x,i,v,_,h => by simp at h
 | p :: r,x,i,v,hr,h => by
  simp only [RelL] at hr
  obtain ⟨u,l',rfl,h3,h4⟩ := hr
  cases i with
  | zero => simp at h; subst h; exact ⟨u,by simp,h3⟩
  | succ i => simp at h ⊢; exact RelL.get h4 h
theorem RelL.drop {κ : Kn} : ∀ {l : List PV} {x : List Value} (n : Nat),RelL κ l x → RelL κ (l.drop n) (x.drop n)
 | l,x,0,h => by simpa using h
 | [],x,n + 1,h => by simp only [RelL] at h; subst h; simp [RelL]
 | p :: r,x,n + 1,h => by
  simp only [RelL] at h
  obtain ⟨u,l',rfl,_,h4⟩ := h
  simpa using RelL.drop n h4
theorem RelL.take {κ : Kn} : ∀ {l : List PV} {x : List Value} (n : Nat),RelL κ l x → RelL κ (l.take n) (x.take n)
 | l,x,0,h => by simp [RelL]
 | [],x,n + 1,h => by simp only [RelL] at h; subst h; simp [RelL]
 | p :: r,x,n + 1,h => by
  simp only [RelL] at h
  obtain ⟨u,l',rfl,h3,h4⟩ := h
  simp only [List.take_succ_cons,RelL]
  exact ⟨u,l'.take n,rfl,h3,RelL.take n h4⟩
theorem RelL.append {κ : Kn} : ∀ {l m : List PV} {x y : List Value},RelL κ l x → RelL κ m y → RelL κ (l ++ m) (x ++ y)
 | [],m,x,y,h,h' => by simp only [RelL] at h; subst h; simpa using h'
 | p :: r,m,x,y,h,h' => by
  simp only [RelL] at h
  obtain ⟨u,l',rfl,h3,h4⟩ := h
  simp only [List.cons_append,RelL]
  exact ⟨u,l' ++ y,rfl,h3,RelL.append h4 h'⟩
theorem RelV.cells {κ : Kn} {p : PV} {x : Value} (h : RelV κ p x) (ho : okc p = true) : RelL κ (cells p) x.cells.toList ∧ (∀ v ∈ x.cells.toList,v.oneCell' = true) := by
 have one : ∀ {v : Value},v.oneCell' = true → RelV κ p v → RelL κ [p] v.cells.toList ∧ (∀ u ∈ v.cells.toList,u.oneCell' = true) := by
  intro v hv hr
  have : v.cells = #[v] := by cases v <;> simp [Value.cells,Value.oneCell'] at hv ⊢
  rw [this]
  exact ⟨⟨v,[],rfl,hr,rfl⟩,by simpa using hv⟩
 cases p with
 | k v =>
  simp only [RelV] at h; subst h
  refine one ?_ rfl
  cases x <;> simp_all [okc,Value.oneCell']
 | ptr id off => obtain ⟨q,rfl,h1⟩ := h; exact one rfl ⟨q,rfl,h1⟩
 | pa id ver i off => obtain ⟨h0,q,rfl,h1⟩ := h; exact one rfl ⟨h0,q,rfl,h1⟩
 | pe cs off => obtain ⟨b,o,rfl,hm⟩ := h; exact one rfl ⟨b,o,rfl,hm⟩
 | sl t es => obtain ⟨a,cap,esz,rfl,h1⟩ := h; exact one rfl ⟨a,cap,esz,rfl,h1⟩
 | ow id n es => obtain ⟨h0,a,cap,esz,rfl,h1⟩ := h; exact one rfl ⟨h0,a,cap,esz,rfl,h1⟩
 | rs id ver off len => obtain ⟨h0,a,cap,rfl,h1⟩ := h; exact one rfl ⟨h0,a,cap,rfl,h1⟩
 | agg cs => obtain ⟨vs,rfl,h1,h2⟩ := h; exact ⟨h1,h2⟩
 | tup cs => simp [okc] at ho
 | fn f cap => obtain ⟨vs,rfl,h1⟩ := h; exact one rfl ⟨vs,rfl,h1⟩
 | map id => obtain ⟨q,rfl,h1⟩ := h; exact one rfl ⟨q,rfl,h1⟩
 | yld id => obtain ⟨q,rfl,h1⟩ := h; exact one rfl ⟨q,rfl,h1⟩
 | bm f fs => obtain ⟨q,rfl,h1⟩ := h; exact one rfl ⟨q,rfl,h1⟩
 | iface t v => obtain ⟨y,rfl,h1⟩ := h; exact one rfl ⟨y,rfl,h1⟩
theorem RelM.take {κ : Kn} {b : Nat} : ∀ {l : List PV} {o : Nat} (n : Nat),RelM κ b o l → RelM κ b o (l.take n)
 | l,o,0,h => by simp [RelM]
 | [],o,n + 1,h => by simp [RelM]
 | p :: r,o,n + 1,h => by
  simp only [RelM,List.take_succ_cons] at *
  exact ⟨h.1,RelM.take n h.2⟩
theorem RelM.drop {κ : Kn} {b : Nat} : ∀ {l : List PV} {o : Nat} (n : Nat),RelM κ b o l → RelM κ b (o + n) (l.drop n)
 | l,o,0,h => by simpa using h
 | [],o,n + 1,h => by simp [RelM]
 | p :: r,o,n + 1,h => by
  simp only [RelM] at h
  have := RelM.drop n h.2
  simpa [Nat.add_assoc,Nat.add_comm 1 n] using this
theorem RelM.list {κ : Kn} {b : Nat} : ∀ {l : List PV} {o : Nat},RelM κ b o l → ∃ vs : List Value,RelL κ l vs ∧ (∀ v ∈ vs,v.oneCell' = true) ∧ ∀ j v,vs[j]? = some v → κ.M b (o + j) = some v
 | [],o,_ => ⟨[],rfl,by simp,by simp⟩
 | p :: r,o,h => by
  simp only [RelM] at h
  obtain ⟨⟨v,hm,h1,hv⟩,hr⟩ := h
  obtain ⟨vs,h2,h3,h4⟩ := RelM.list hr
  refine ⟨v :: vs,⟨v,vs,rfl,hv,h2⟩,by simpa [h1] using h3,fun j u hj => ?_⟩
  cases j with
  | zero => simp at hj; subst hj; exact hm
  | succ j => simp at hj; have := h4 j u hj; rwa [show o + (j + 1) = o + 1 + j by omega]
structure Found (κ : Kn) (w : World) (a : Addr) (cs : List PV) (vs : List Value) : Prop where
 rel : RelL κ cs vs
 one : ∀ v ∈ vs,v.oneCell' = true
 at_ : ∀ j v,vs[j]? = some v → w.cell? (a.add j) = some v
 spot : a.spot = none
theorem add_plain (b o j : Nat) : (⟨b,o,none⟩ : Addr).add j = ⟨b,o + j,none⟩ := by unfold Addr.add; split <;> simp_all
theorem cell_of_row {w : World} {b : Nat} {c : Array Value} {T : TypeId} {fr : Nat × Nat} (h : w.heap[b]? = some (.cells c T fr)) (o : Nat) : w.cell? ⟨b,o,none⟩ = c[o]? := by
 simp [World.cell?,h]
theorem mkv_load {P : Program} {κ : Kn} {w : World} {a : Addr} {cs : List PV} {vs : List Value} (hf : Found κ w a cs vs) {n : Option Nat} {v : PV} {t : TypeId} {i : TypeInfo} (hm : mkv n cs = some v)
  (hi : P.info? t = some i) (hs : i.size = n.getD 1) (ha : aggIs P t n.isSome = true) : ∃ x,(loadVar t a).run P w = .ok x w ∧ RelV κ v x := by
 have hl := hf.rel.length
 have hc : (loadCells a cs.length).run P w = .ok vs.toArray w := by rw [hl]; exact run_loadCells_list w a vs hf.at_
 unfold aggIs at ha
 cases hu : P.underlying t with
 | none => rw [hu] at ha; cases ha
 | some d =>
  rw [hu] at ha
  cases n with
  | none =>
   simp only [mkv] at hm
   split at hm
   ·rename_i p
    cases hm
    obtain ⟨u,l',hx,h3,h4⟩ := hf.rel
    simp only [RelL] at h4; subst h4; subst hx
    have hz := hf.at_ 0 u rfl
    have hz' : w.cell? a = some u := by simpa [Addr.add] using hz
    refine ⟨u,?_,h3⟩
    cases d <;> simp at ha <;> simp [loadVar,isAgg,underlying,hu,hz']
   ·cases hm
  | some m =>
   simp only [mkv] at hm
   split at hm
   ·rename_i hm'
    cases hm
    refine ⟨.agg vs.toArray,?_,⟨vs.toArray,rfl,by simpa using hf.rel,by simpa using hf.one⟩⟩
    have hsz : (sizeOf t).run P w = .ok cs.length w := by simp [sizeOf,typeInfo,hi,hs,hm']
    cases d <;> simp at ha <;> simp [loadVar,isAgg,underlying,hu,hsz,hc]
   ·cases hm
theorem takeAt_some {cs : List PV} {off n : Nat} {r : List PV} (h : takeAt cs off n = some r) : off + n ≤ cs.length ∧ r = (cs.drop off).take n := by
 unfold takeAt at h
 split at h
 ·cases h; exact ⟨by assumption,rfl⟩
 ·cases h
theorem loadE_found {bars : List Nat} {κ : Kn} {σ : Sto} {w : World} (h : INV bars κ σ w) {p : PV} {x : Value} (hp : RelV κ p x) {n : Option Nat} {v : PV} (hl : loadE σ n p = some v) :
  ∃ a cs vs,x = .pointer (some a) ∧ Found κ w a cs vs ∧ cs.length = n.getD 1 ∧ mkv n cs = some v := by
 unfold loadE at hl
 split at hl
 ·rename_i id off
  split at hl
  ·rename_i cs hs
   simp only [Option.bind_eq_some_iff] at hl
   obtain ⟨r,hr,hm⟩ := hl
   obtain ⟨hle,rfl⟩ := takeAt_some hr
   obtain ⟨hg,h0,⟨c,T,hc,hrel,h1⟩,-⟩ := h.obs id _ hs
   obtain ⟨q,rfl,-,hq⟩ := hp
   have hq := hq hg
   subst hq
   refine ⟨_,_,(c.toList.drop off).take (n.getD 1),rfl,⟨RelL.take _ (RelL.drop off hrel),fun v hv => h1 v (List.mem_of_mem_drop (List.mem_of_mem_take hv)),fun j v hj => ?_,rfl⟩,by simp; omega,hm⟩
   rw [add_plain,cell_of_row hc,h0]
   rw [List.getElem?_take] at hj
   split at hj
   ·rw [List.getElem?_drop] at hj
    rw [← Array.getElem?_toList]; simpa using hj
   ·cases hj
  ·cases hl
 ·rename_i id ver i off
  split at hl
  ·rename_i vv kk es hs
   split at hl
   ·rename_i hver
    subst hver
    simp only [Option.bind_eq_some_iff] at hl
    obtain ⟨e,hei,r,hr,hm⟩ := hl
    obtain ⟨hle,rfl⟩ := takeAt_some hr
    obtain ⟨hg,rfl,⟨c,T,hc,hes,h1,pre,post,us,hcu,hpre,hrel⟩,-⟩ := h.obs id _ hs
    obtain ⟨-,q,rfl,hq⟩ := hp
    have hq := hq hg
    subst hq
    have hel : e.length = κ.esz id := hes e (List.mem_of_getElem? hei)
    have hdrop : ∀ (l : List (List PV)) (i : Nat) (e : List PV) (k : Nat),(∀ e ∈ l,e.length = k) → l[i]? = some e → ∃ rest,l.flatten.drop (i * k) = e ++ rest := by
     intro l
     induction l with
     | nil => intro i e k _ h; simp at h
     | cons x r ih =>
      intro i e k hk h
      cases i with
      | zero => simp at h; subst h; exact ⟨r.flatten,by simp⟩
      | succ i =>
       simp at h
       obtain ⟨rest,hr⟩ := ih i e k (fun e he => hk e (by simp [he])) h
       refine ⟨rest,?_⟩
       have hx := hk x (by simp)
       rw [List.flatten_cons,show (i + 1) * k = x.length + i * k by rw [hx,Nat.succ_mul]; omega,List.drop_append]
       rw [List.drop_eq_nil_of_le (Nat.le_add_right _ _)]
       simpa using hr
    obtain ⟨rest,hrest⟩ := hdrop es i e (κ.esz id) hes hei
    have h2 := RelL.take (n.getD 1) (RelL.drop off (RelL.drop (i * κ.esz id) hrel))
    rw [hrest] at h2
    have h3 : ((e ++ rest).drop off).take (n.getD 1) = (e.drop off).take (n.getD 1) := by
     rw [List.drop_append_of_le_length (by omega),List.take_append_of_le_length (by simp; omega)]
    rw [h3] at h2
    refine ⟨_,_,_,rfl,⟨h2,fun v hv => h1 v ?_,fun j v hj => ?_,rfl⟩,by simp; omega,hm⟩
    ·rw [hcu]
     have := List.mem_of_mem_drop (List.mem_of_mem_drop (List.mem_of_mem_take hv))
     simp [this]
    ·rw [add_plain,cell_of_row hc]
     rw [List.getElem?_take] at hj
     split at hj
     ·rw [List.getElem?_drop,List.getElem?_drop] at hj
      rw [← Array.getElem?_toList,hcu,List.append_assoc,List.getElem?_append_right (by omega),List.getElem?_append_left]
      ·rw [← hj]; congr 1; omega
      ·have := (List.getElem?_eq_some_iff.1 hj).1; omega
     ·cases hj
   ·cases hl
  ·cases hl
 ·rename_i cs off
  simp only [Option.bind_eq_some_iff] at hl
  obtain ⟨r,hr,hm⟩ := hl
  obtain ⟨hle,rfl⟩ := takeAt_some hr
  obtain ⟨b,o,rfl,hM⟩ := hp
  have hM' := RelM.take (n.getD 1) (RelM.drop off hM)
  obtain ⟨vs,h2,h3,h4⟩ := RelM.list hM'
  refine ⟨_,_,vs,rfl,⟨h2,h3,fun j v hj => ?_,rfl⟩,by simp; omega,hm⟩
  rw [add_plain]
  exact h.mem _ _ _ (h4 j v hj)
 ·cases hl
section
variable {P : Program} {bars : List Nat} {κ : Kn} {σ : Sto} {w : World} {env : Env} {a : Act} {o : Oper} {r : OpR}
theorem loadE_below {bars : List Nat} (h : INV bars κ σ w) {n : Option Nat} {p v : PV} (hb : below σ.length p = true) (hl : loadE σ n p = some v) : below σ.length v = true := by
 have mk : ∀ {n : Option Nat} {cs : List PV} {v : PV},below.belowAll σ.length cs = true → mkv n cs = some v → below σ.length v = true := by
  intro n cs v hb hm
  cases n with
  | none =>
   simp only [mkv] at hm
   split at hm
   ·cases hm; simpa [below.belowAll] using hb
   ·cases hm
  | some m =>
   simp only [mkv] at hm
   split at hm
   ·cases hm; exact hb
   ·cases hm
 have tk : ∀ {cs r : List PV} {off m : Nat},below.belowAll σ.length cs = true → takeAt cs off m = some r → below.belowAll σ.length r = true := by
  intro cs r off m hb ht
  obtain ⟨_,rfl⟩ := takeAt_some ht
  exact belowAll_of fun p hp => belowAll_mem hb (List.mem_of_mem_drop (List.mem_of_mem_take hp))
 unfold loadE at hl
 split at hl
 ·split at hl
  ·rename_i cs hs
   simp only [Option.bind_eq_some_iff] at hl
   obtain ⟨r,hr,hm⟩ := hl
   exact mk (tk (h.wf _ _ hs) hr) hm
  ·cases hl
 ·split at hl
  ·rename_i vv kk es hs
   split at hl
   ·simp only [Option.bind_eq_some_iff] at hl
    obtain ⟨e,hei,r,hr,hm⟩ := hl
    have h0 : below.belowAll σ.length es.flatten = true := by
     rw [belowEs_flatten]; exact belowEs_mono (Nat.zero_le _) _ (h.wf _ _ hs)
    exact mk (tk (belowAll_of fun p hp => belowAll_mem h0 (List.mem_flatten.2 ⟨e,List.mem_of_getElem? hei,hp⟩)) hr) hm
   ·cases hl
  ·cases hl
 ·simp only [Option.bind_eq_some_iff] at hl
  obtain ⟨r,hr,hm⟩ := hl
  exact mk (tk (by simpa [below] using hb) hr) hm
 ·cases hl
theorem sound_load (hi : INV bars κ σ w) (he : ENV κ σ.length env a.tmps) {n : Option Nat} {x : Opd} {y : Operand} {t : TypeId} {i : TypeInfo} (hc : chkO x y = true) (hti : P.info? t = some i) (hs : i.size = n.getD 1) (ha : aggIs P t n.isSome = true)
  (ho : o.op = .load t y) (hr : opE bars env σ (.load n x) = some r) : OpOK bars κ σ w ((execOp a.eval o).run P w) r := by
 simp only [opE,Option.bind_eq_some_iff,Option.some.injEq] at hr
 obtain ⟨p,hp,v,hv,rfl⟩ := hr
 obtain ⟨h1,h2⟩ := chkO_spec he hc hp
 obtain ⟨ad,cs,vs,hx,hf,hlen,hm⟩ := loadE_found hi h1 hv
 obtain ⟨u,hu,hrel⟩ := mkv_load (P := P) hf hm hti hs ha
 exact opOK_val hi (by simp [execOp,ho,hx,Instr.loadAt,Instr.sureAddr,hu]) hrel (loadE_below hi h2 hv)
theorem sound_alloc (hi : INV bars κ σ w) {zero : List PV} {t : TypeId} {i : TypeInfo} {z : Value} (hti : P.info? t = some i) (hz : i.zero = some z) (hc : eqCs zero z.cells.toList = true) (h1 : z.cells.toList.all Value.oneCell' = true)
  (ho : o.op = .alloc t) (hr : opE bars env σ (.alloc zero) = some r) : OpOK bars κ σ w ((execOp a.eval o).run P w) r := by
 simp only [opE,Option.some.injEq] at hr
 subst hr
 obtain ⟨h2,h3⟩ := eqCs_spec κ σ.length zero _ hc
 obtain ⟨h4,h5⟩ := hi.push_var (T := t) h2 (List.all_eq_true.1 h1) h3
 refine ⟨_,_,.pointer (some ⟨w.heap.size,0,none⟩),.inl ?_,⟨⟨w.heap.size,0,none⟩,rfl,by simp [Kn.at],fun _ => ?_⟩,by simp [below],h4,h5,by simp⟩
 ·simp [execOp,ho,Instr.alloc,zeroValue,typeInfo,hti,hz,newVar,newRow]
 ·simp [Kn.at]
theorem sound_box (hi : INV bars κ σ w) (he : ENV κ σ.length env a.tmps) {n : Nat} {x : Opd} {y : Operand} {t : TypeId} (hc : chkO x y = true) (ho : o.op = .box t y) (hr : opE bars env σ (.box n x) = some r) : OpOK bars κ σ w ((execOp a.eval o).run P w) r := by
 simp only [opE,Option.bind_eq_some_iff] at hr
 obtain ⟨v,hv,hr⟩ := hr
 split at hr
 ·rename_i hlen
  cases hr
  obtain ⟨h1,h2⟩ := chkO_spec he hc hv
  obtain ⟨h3,h4⟩ := h1.cells hlen.2
  have hb : below.belowAll σ.length (cells v) = true := by
   cases v <;> first | (simpa [cells,below,below.belowAll] using h2) | (simp [cells,below,below.belowAll])
  obtain ⟨h5,h6⟩ := hi.push_var (T := t) h3 h4 hb
  refine ⟨_,_,.pointer (some ⟨w.heap.size,0,none⟩),.inl ?_,⟨⟨w.heap.size,0,none⟩,rfl,by simp [Kn.at],fun _ => ?_⟩,by simp [below],h5,h6,by simp⟩
  ·simp [execOp,ho,Instr.box,newVar,newRow]
  ·simp [Kn.at]
 ·cases hr
end
end Go.Ev
