/- A pure interpreter for the loaded code of a seat's functions: values, store, operations and code in a compact form; no condition, no statement of the seat is proved here. -/
import GoSem.Core.Code
import GoSem.Dispatch
import Derived.Calls
import Derived.Laws.Sem
import Derived.Laws.CopyRow
import Derived.Laws.Cells
import Derived.Laws.Entries
import Derived.ChangeKeysEq
import Derived.Laws.Tables
import Derived.Deep.AppendSrc
set_option linter.unnecessarySimpa false
set_option linter.unusedVariables false
set_option linter.unusedSimpArgs false
set_option linter.unusedSectionVars false
namespace Go.Ev
noncomputable section
inductive PV where
 | k (v:Value)
 | ptr (id off:Nat)
 | pa (id ver i off:Nat)
 | pe (cs:List PV) (off:Nat)
 | sl (tight:Bool) (es:List (List PV))
 | ow (id n:Nat) (es:List (List PV))
 | rs (id ver off len:Nat)
 | agg (cs:List PV)
 | tup (vs:List PV)
 | fn (f:Fn) (cap:List PV)
 | yld (id:Nat)
 | bm (f:FuncId) (fs:List PV)
 | map (id:Nat)
 | iface (t:TypeId) (v:PV)
 deriving Inhabited
inductive Opd where
 | t (n:Nat)
 | c (v:PV)
 deriving Inhabited
inductive Tgt where
 | f (n:FuncId)
 | v (x:Opd)
 | m (x:Opd) (tab:List (TypeId×FuncId))
 deriving Inhabited
inductive IOp where
 | mov (x:Opd)
 | pick (c a b:Opd)
 | alloc (zero:List PV)
 | box (n:Nat) (x:Opd)
 | build (zero:List PV) (parts:List (Nat×Nat×Opd))
 | bslice (esz len:Nat) (zero:List PV) (parts:List (Nat×Opd))
 | bslm (esz len:Nat) (zero:List PV) (parts:List (Nat×Opd))
 | load (n:Option Nat) (a:Opd)
 | store (n:Nat) (a x:Opd)
 | nilc (x:Opd)
 | bin (op:BinOp) (x y:Opd)
 | beq (neg:Bool) (x y:Opd)
 | stq (kd:List Bool) (neg:Bool) (x y:Opd)
 | not (x:Opd)
 | neg (x:Opd)
 | conv (k:IntKind) (x:Opd)
 | strc (x:Opd)
 | miface (t:TypeId) (x:Opd)
 | mfunc (f:Fn) (cap:List Opd)
 | mbm (f:FuncId) (fs:List Opd)
 | isnil (neg:Bool) (x:Opd)
 | slnil (neg:Bool) (x:Opd)
 | mmap
 | mslice (esz:Nat) (zero:List PV) (l:Opd)
 | mslp (esz:Nat) (zero:List PV) (l:Opd)
 | slice (esz:Nat) (x:Opd) (lo hi mx:Option Opd)
 | faddr (off:Nat) (x:Opd)
 | fld (off:Nat) (n:Option Nat) (x:Opd)
 | iaddr (arr:Option Nat) (esz:Nat) (x i:Opd)
 | idx (x i:Opd)
 | lookup (str:Bool) (zero:PV) (m key:Opd) (ok:Bool)
 | mupd (str:Bool) (m key v:Opd)
 | lookup2 (kd:List Bool) (zero:PV) (m key:Opd) (ok:Bool)
 | mupd2 (kd:List Bool) (m key v:Opd)
 | del (str:Bool) (m key:Opd)
 | tas (t:TypeId) (zero:PV) (ok:Bool) (x:Opd)
 | extr (i:Nat) (x:Opd)
 | call (f:Tgt) (args:List Opd)
 | callq (f:Tgt) (args:List Opd)
 | callg (f:Tgt) (args:List Opd)
 | callm (av:List Nat) (f:Tgt) (args:List Opd)
 | app (esz:Nat) (x y:Opd)
 | appz (esz:Nat) (x y:Opd)
 | appo (esz:Nat) (x y:Opd)
 | appq (esz:Nat) (x y:Opd)
 | appx (esz:Nat) (x y:Opd)
 | apps (x y:Opd)
 | allocb (T E:Nat)
 | appm (av:List Nat) (esz:Nat) (x y:Opd)
 | loadb (m:Nat) (n:Option Nat) (a:Opd)
 | cap (x:Opd)
 | appr (esz:Nat) (zero:List PV) (x l:Opd)
 | storeb (b n:Nat) (a x:Opd)
 | storem (av:List Nat) (n:Nat) (a x:Opd)
 | len (str:Bool) (x:Opd)
 | mm (isMax:Bool) (x y:Opd)
 | dfr (f:FuncId) (args:List Opd)
 | panic (x:Opd)
 | recover
 deriving Inhabited
structure IOper where
 dst:Option Nat
 op:IOp
 guard:Option (Nat×Bool)
 deriving Inhabited
inductive Ps where
 | own (s esz:Nat)
 | ownAt (s off esz:Nat)
 | mut (s:Nat)
 | shutp (s:Nat)
 | com (s off:Nat)
 | frz (s:Nat)
 deriving Inhabited
inductive IC where
 | skip
 | stuck
 | seq (a b:IC)
 | reg (draw:Option (List (Nat×Option Nat))) (ops:List IOper) (keep:List Nat)
 | ps (l:List Ps) (c:IC)
 | psa (c:IC) (l:List Ps)
 | cond (c:Opd) (a b:IC)
 | block (id:Nat) (a:IC)
 | loop (a:IC)
 | cut (a:IC) (keep:List Nat)
 | rfunc (f:Opd) (ps keep:List Nat) (asg body:IC)
 | dfr (pre:List IOper) (keep:List Nat) (f:Tgt) (args:List Opd) (rest:IC)
 | exit (id:Nat) (keep:List Nat)
 | ret (keep:List Nat)
 deriving Inhabited
inductive ResV where
 | t (s:Nat)
 | cell (s:Nat) (n:Option Nat)
 deriving Inhabited
structure IF where
 np:Nat
 body:IC
 res:List ResV
 mode:Nat
 deriving Inhabited
inductive Ob where
 | var (cs:List PV)
 | tok (esz n:Nat)
 | arr (ver esz:Nat) (es:List (List PV))
 | mp (m:List (Value×PV))
 | loop (env:List (Nat×PV)) (ps:List Nat) (asg body:IC) (st:Nat) (pend:Option (Option Nat))
 | dead
 | pt (ver esz:Nat) (es:List (List PV)) (z:List PV)
 | bld (T:Nat) (used:Bool) (x:PV) (j:Nat)
 | barr (T ver:Nat) (s:ByteArray)
 deriving Inhabited
abbrev Env:=List (Nat×PV)
abbrev Sto:=List Ob
abbrev PV.i (n:Int):PV:=.k (.int .i64 n)
abbrev PV.b (b:Bool):PV:=.k (.bool b)
abbrev PV.s (x:ByteArray):PV:=.k (.string x)
def bw:Env→Nat→Option PV
 | [],_=>none
 | (s,v)::r,n=>if s=n then some v else bw r n
def ev (env:Env):Opd→Option PV
 | .t n=>bw env n
 | .c v=>some v
def evs (env:Env):List Opd→Option (List PV)
 | []=>some []
 | x::r=>(ev env x).bind fun v=>(evs env r).bind fun vs=>some (v::vs)
def evp (env:Env):List (Nat×Opd)→Option (List (Nat×PV))
 | []=>some []
 | (i,x)::r=>(ev env x).bind fun v=>(evp env r).bind fun vs=>some ((i,v)::vs)
def evq (env:Env):List (Nat×Nat×Opd)→Option (List (Nat×Nat×PV))
 | []=>some []
 | (i,n,x)::r=>(ev env x).bind fun v=>(evq env r).bind fun vs=>some ((i,n,v)::vs)
def evo (env:Env):Option Opd→Option (Option PV)
 | none=>some none
 | some x=>(ev env x).bind fun v=>some (some v)
def cells:PV→List PV
 | .agg cs=>cs
 | v=>[v]
def norm:PV→PV
 | .sl _ es=>.sl false es
 | .ow _ _ es=>.sl false es
 | .agg cs=>.agg (normAll cs)
 | .tup cs=>.tup (normAll cs)
 | .iface t v=>.iface t (norm v)
 | v=>v
where normAll:List PV→List PV
 | []=>[]
 | v::r=>norm v::normAll r
def below (n:Nat):PV→Bool
 | .k _=>true
 | .ptr id _=>id<n
 | .pa id _ _ _=>id<n
 | .pe cs _=>belowAll cs
 | .sl _ es=>belowEs es
 | .ow id _ es=>id<n && belowEs es
 | .rs id _ _ _=>id<n
 | .agg cs=>belowAll cs
 | .tup cs=>belowAll cs
 | .fn _ cap=>belowAll cap
 | .yld id=>id<n
 | .bm _ fs=>belowAll fs
 | .map id=>id<n
 | .iface _ v=>below n v
where
 belowAll:List PV→Bool
  | []=>true
  | v::r=>below n v && belowAll r
 belowEs:List (List PV)→Bool
  | []=>true
  | e::r=>belowAll e && belowEs r
def okc:PV→Bool
 | .tup _=>false
 | .k (.agg _)=>false
 | .k (.tuple _)=>false
 | _=>true
def mkv (n:Option Nat) (cs:List PV):Option PV :=
 match n with
 | none=>match cs with|[v]=>some v|_=>none
 | some m=>if cs.length=m then some (.agg cs) else none
def tX (cs:List PV) (off n:Nat):Option (List PV) :=
 if off+n≤cs.length then some ((cs.drop off).take n) else none
def AK (cs:List PV) (off:Nat) (xs:List PV):Option (List PV) :=
 if off+xs.length≤cs.length then some (cs.take off++xs++cs.drop (off+xs.length)) else none
def DD (acc:List PV):List (Nat×Nat×PV)→Option (List PV)
 | []=>some acc
 | (off,sz,v)::r=>if (cells v).length=sz∧okc v then (AK acc off (cells (norm v))).bind fun a=>DD a r else none
def LIM:Nat:=2 ^ 32
def YB:Nat:=1000000
def df (σ:Sto):PV→Option (List (List PV))
 | .sl _ es=>some es
 | .ow _ _ es=>some es
 | .k (.slice _ 0 _)=>some []
 | .rs id ver off len=>match σ[id]? with
  | some (.arr v _ es)=>if v=ver∧off+len≤es.length then some ((es.drop off).take len) else none
  | _=>none
 | _=>none
inductive OpR where
 | val (v:PV) (σ:Sto)
 | call (f:FuncId) (args:List PV) (σ:Sto)
 | pan (v:PV) (σ:Sto)
 | dfr (f:FuncId) (args:List PV) (σ:Sto)
 | rcv (σ:Sto)
 deriving Inhabited
def vb (op:BinOp) (x y:PV):Option PV :=
 match x,y with
 | .k (.int j a),.k (.int l b) =>
  if j=l then match op with
   | .add=>some (.k (.int j (j.wrap (a+b))))
   | .sub=>some (.k (.int j (j.wrap (a - b))))
   | .mul=>some (.k (.int j (j.wrap (a * b))))
   | .eql=>some (.b (decide (a=b)))
   | .neq=>some (.b (!decide (a=b)))
   | .lss=>some (.b (decide (a<b)))
   | .leq=>some (.b (decide (a≤b)))
   | .gtr=>some (.b (decide (b<a)))
   | .geq=>some (.b (decide (b≤a)))
   | .quo=>if b=0 then none else some (.k (.int j (j.wrap (a.tdiv b))))
   | .rem=>if b=0 then none else some (.k (.int j (a.tmod b)))
   | .and=>some (.k (.int j (j.wrap (BitVec.ofInt j.bits a &&& BitVec.ofInt j.bits b).toNat)))
   | .or=>some (.k (.int j (j.wrap (BitVec.ofInt j.bits a ||| BitVec.ofInt j.bits b).toNat)))
   | .xor=>some (.k (.int j (j.wrap (BitVec.ofInt j.bits a ^^^ BitVec.ofInt j.bits b).toNat)))
   | .shl=>if b<0 then none else some (.k (.int j (j.wrap (a * 2 ^ (min b.toNat j.bits)))))
   | .shr=>if b<0 then none else some (.k (.int j (a.fdiv (2 ^ (min b.toNat j.bits)))))
   | _=>none
  else match op with
   | .shl=>if b<0 then none else some (.k (.int j (j.wrap (a * 2 ^ (min b.toNat j.bits)))))
   | .shr=>if b<0 then none else some (.k (.int j (a.fdiv (2 ^ (min b.toNat j.bits)))))
   | _=>none
 | .k (.string a),.k (.string b)=>match op with
  | .eql=>some (.b (a.toList == b.toList))
  | .neq=>some (.b (!(a.toList == b.toList)))
  | .add=>if a.size+b.size≤LIM then some (.s (a++b)) else none
  | _=>none
 | _,_=>none
def unE (x:PV):Option PV :=
 match x with
 | .k (.bool a)=>some (.b (!a))
 | _=>none
def bV (esz:Nat):List (List PV)→Bool
 | []=>true
 | e::r=>decide (e.length=esz) && bV esz r
def rD (σ:Sto) (esz:Nat) (x:PV) (lo hi mx:Option PV):Option PV :=
 match x,lo.getD (.i 0) with
 | .k (.string s),.k (.int .i64 l) =>
  match mx,hi.getD (.i s.size) with
  | none,.k (.int .i64 h)=>if 0≤l∧l≤h∧h≤s.size∧esz=0 then some (.s (s.extract l.toNat h.toNat)) else none
  | _,_=>none
 | .sl t es,.k (.int .i64 l) =>
  match hi.getD (.i es.length) with
  | .k (.int .i64 h) =>
   if 0≤l∧l≤h∧h≤es.length∧bV esz es∧0<esz then
    match mx with
    | none=>some (.sl (t && decide (h.toNat=es.length)) ((es.drop l.toNat).take (h.toNat - l.toNat)))
    | some (.k (.int .i64 m))=>if m=h∧hi.isSome then some (.sl true ((es.drop l.toNat).take (h.toNat - l.toNat))) else none
    | _=>none
   else none
  | _=>none
 | .ow id n es,.k (.int .i64 l) =>
  match hi.getD (.i es.length) with
  | .k (.int .i64 h) =>
   if 0≤l∧l≤h∧h≤es.length∧bV esz es∧0<esz then
    match mx,σ[id]? with
    | none,some (.tok k _)=>if h.toNat=es.length∧k=esz then some (.ow id n (es.drop l.toNat)) else some (.sl false ((es.drop l.toNat).take (h.toNat - l.toNat)))
    | some (.k (.int .i64 m)),_=>if m=h∧hi.isSome then some (.sl true ((es.drop l.toNat).take (h.toNat - l.toNat))) else none
    | _,_=>none
   else none
  | _=>none
 | .rs id ver off len,.k (.int .i64 l) =>
  match hi.getD (.i len),mx,σ[id]? with
  | .k (.int .i64 h),none,some (.arr _ k _)=>if 0≤l∧l≤h∧h≤len∧k=esz∧0<esz then some (.rs id ver (off+l.toNat) (h.toNat - l.toNat)) else none
  | _,_,_=>none
 | _,_=>none
def Ow (str:Bool):PV→Option Nat
 | .sl _ es=>if str then none else some es.length
 | .ow _ _ es=>if str then none else some es.length
 | .rs _ _ _ len=>if str then none else some len
 | .k (.string s)=>if str then some s.size else none
 | _=>none
def qg (σ:Sto) (n:Option Nat) (a:PV):Option PV :=
 match a with
 | .ptr id off=>match σ[id]? with
  | some (.var cs)=>(tX cs off (n.getD 1)).bind (mkv n)
  | _=>none
 | .pa id ver i off=>match σ[id]? with
  | some (.arr v _ es)=>if v=ver then (es[i]?).bind fun e=>(tX e off (n.getD 1)).bind (mkv n) else none
  | _=>none
 | .pe cs off=>(tX cs off (n.getD 1)).bind (mkv n)
 | _=>none
def aj (bars:List Nat) (id:Nat) (x:PV):Bool :=
 match bars with
 | []=>true
 | b::r=>(decide (b≤id) || below b x) && aj r id x
def mD (bars:List Nat) (σ:Sto) (n:Nat) (a x:PV):Option Sto :=
 if (cells x).length=n∧okc x then
  match a with
  | .ptr id off=>match σ[id]? with
   | some (.var cs)=>if aj bars id x then (AK cs off (cells x)).bind fun cs'=>some (σ.set id (.var cs')) else none
   | _=>none
  | .pa id ver i off=>match σ[id]? with
   | some (.arr v k es)=>if v=ver∧below 0 (norm x) then (es[i]?).bind fun e=>(AK e off (cells (norm x))).bind fun e'=>some (σ.set id (.arr v k (es.set i e'))) else none
   | some (.pt v k es z)=>if v=ver∧i=es.length∧below 0 (norm x) then (AK z off (cells (norm x))).bind fun z'=>some (σ.set id (.pt v k es z')) else none
   | _=>none
  | _=>none
 else none
def FH:PV→Option (List (List PV))
 | .k (.string s)=>some (s.data.toList.map fun b=>[.k (.int .u8 b.toNat)])
 | _=>none
def uS:PV→Bool
 | .sl true _=>true
 | _=>false
def tM (esz:Nat) (σ:Sto) (x:PV) (ys:List (List PV)):Option (PV×Sto) :=
 match x with
 | .sl t es =>
  if ys.length=0 then some (x,σ)
  else if t∧es.length+ys.length≤LIM then some (.sl false (es++ys),σ)
  else none
 | .ow id n es =>
  match σ[id]? with
  | some (.tok k m)=>if k=esz∧m=n∧0<ys.length∧es.length+ys.length≤LIM then some (.ow id (n+ys.length) (es++ys),σ.set id (.tok k (n+ys.length))) else if ys.length=0 then some (x,σ) else none
  | _=>none
 | .rs id ver off len =>
  match σ[id]? with
  | some (.arr v k es)=>if k=esz∧v=ver∧off=0∧0<ys.length∧len≤es.length∧len+ys.length≤LIM∧below.belowEs 0 ys=true then some (.rs id (ver+1) 0 (len+ys.length),σ.set id (.arr (ver+1) k (es.take len++ys))) else if ys.length=0 then some (x,σ) else none
  | _=>none
 | _=>none
def mE (str:Bool) (a b:Value):Option Bool :=
 match a,b with
 | .int j x,.int k y=>if str=false∧j=k then some (decide (x=y)) else none
 | .string x,.string y=>if str=true then some (decide (x=y)) else none
 | _,_=>none
def wr (str:Bool) (m:List (Value×PV)) (key:Value):Option (Option PV) :=
 match m with
 | []=>some none
 | (k,v)::r=>match mE str k key with
  | some true=>some (some v)
  | some false=>wr str r key
  | none=>none
def rE (str:Bool) (m:List (Value×PV)) (key:Value) (x:PV):Option (List (Value×PV)) :=
 match m with
 | []=>match mE str key key with
  | some _=>some [(key,x)]
  | none=>none
 | (k,v)::r=>match mE str k key with
  | some true=>some ((k,x)::r)
  | some false=>(rE str r key x).bind fun r'=>some ((k,v)::r')
  | none=>none
def FI (str:Bool) (m:List (Value×PV)) (key:Value):Option (List (Value×PV)) :=
 match m with
 | []=>some []
 | (k,v)::r=>match mE str k key with
  | some true=>some r
  | some false=>(FI str r key).bind fun r'=>some ((k,v)::r')
  | none=>none
def zu:List Bool→List PV→Option (List Value)
 | [],[]=>some []
 | false::kd,.k (.int j x)::r=>(zu kd r).bind fun l=>some (.int j x::l)
 | true::kd,.k (.string x)::r=>(zu kd r).bind fun l=>some (.string x::l)
 | _,_=>none
def eqS:List Value→List Value→Option Bool
 | [],[]=>some true
 | .int j x::r,.int k y::s=>if j=k then (eqS r s).bind fun b=>some (decide (x=y) && b) else none
 | .string x::r,.string y::s=>(eqS r s).bind fun b=>some (decide (x=y) && b)
 | _,_=>none
def yX (m:List (Value×PV)) (key:List Value):Option (Option PV) :=
 match m with
 | []=>some none
 | (.agg k,v)::r=>match eqS key k.toList with
  | some true=>some (some v)
  | some false=>yX r key
  | none=>none
 | _=>none
def yY (m:List (Value×PV)) (key:List Value) (x:PV):Option (List (Value×PV)) :=
 match m with
 | []=>some [(.agg key.toArray,x)]
 | (.agg k,v)::r=>match eqS key k.toList with
  | some true=>some ((.agg key.toArray,x)::r)
  | some false=>(yY r key x).bind fun r'=>some ((.agg k,v)::r')
  | none=>none
 | _=>none
def kR (env:Env) (σ:Sto) (f:Tgt) (args:List PV):Option OpR :=
 match f with
 | .f n=>some (.call n args σ)
 | .v x=>match ev env x with
  | some (.fn (.func n) cap)=>if n<YB then some (.call n (args++cap) σ) else none
  | some (.yld l)=>some (.call (YB+l) args σ)
  | some (.bm n fs)=>if n<YB then some (.call n (fs++args) σ) else none
  | _=>none
 | .m x tab=>match ev env x with
  | some (.iface t v)=>(tab.lookup t).bind fun n=>if n<YB then some (.call n (v::args) σ) else none
  | _=>none
def Em (esz:Nat) (acc:List (List PV)):List (Nat×PV)→Option (List (List PV))
 | []=>some acc
 | (i,v)::r=>if i<acc.length∧(cells v).length=esz∧okc v∧below 0 (norm v) then Em esz (acc.set i (cells (norm v))) r else none
def P3 (esz:Nat) (σ:Sto) (v:PV) (ys:List (List PV)):Option OpR :=
 match v,ys with
 | .ow id n es,[z]=>match σ[id]? with
  | some (.tok k m)=>if k=esz∧m=n∧es.length+1≤LIM∧bV esz es=true∧bV esz [z]=true∧below.belowEs 0 es=true∧below.belowAll 0 z=true then some (.val (.rs id (n+1) 0 (es.length+1)) (σ.set id (.pt (n+1) esz es z))) else none
  | _=>none
 | _,_=>none
def top:PV→Option Nat
 | .ptr id _=>some id
 | .pa id _ _ _=>some id
 | .ow id _ _=>some id
 | .rs id _ _ _=>some id
 | .map id=>some id
 | _=>none
def lk (env:Env) (b:Nat) (p:PV):Bool:=match bw env b with
 | some u=>top u == top p
 | none=>false
def gy (env:Env):List Nat→PV→Bool
 | [],_=>true
 | m::r,p=>(match bw env m with
  | some u=>top u != top p
  | none=>false) && gy env r p
def tY (esz:Nat) (σ:Sto) (v u:PV):Option (PV×Sto) :=
 match v,u with
 | .ow id n es,.sl _ ys=>if bV esz es=true∧bV esz ys=true then tM esz σ (.ow id n es) ys else none
 | .sl t es,.sl _ ys=>if bV esz es=true∧bV esz ys=true then tM esz σ (.sl t es) ys else none
 | _,_=>none
def opE (bars:List Nat) (env:Env) (σ:Sto):IOp→Option OpR
 | .mov x=>(ev env x).bind fun v=>some (.val v σ)
 | .pick c a b=>match ev env c with
  | some (.k (.bool true))=>(ev env a).bind fun v=>some (.val v σ)
  | some (.k (.bool false))=>(ev env b).bind fun v=>some (.val v σ)
  | _=>none
 | .alloc zero=>some (.val (.ptr σ.length 0) (σ++[.var zero]))
 | .box n x=>(ev env x).bind fun v=>if (cells v).length=n∧okc v then some (.val (.ptr σ.length 0) (σ++[.var (cells v)])) else none
 | .build zero parts=>(evq env parts).bind fun ps=>(DD zero ps).bind fun cs=>some (.val (.agg cs) σ)
 | .bslice esz len zero parts=>(evp env parts).bind fun ps =>
   if zero.length=esz then (Em esz (List.replicate len zero) ps).bind fun es=>some (.val (.sl true es) σ) else none
 | .bslm esz len zero parts=>(evp env parts).bind fun ps =>
   if zero.length=esz then (Em esz (List.replicate len zero) ps).bind fun es=>some (.val (.rs σ.length 0 0 len) (σ++[.arr 0 esz es])) else none
 | .load n a=>(ev env a).bind fun p=>(qg σ n p).bind fun v=>some (.val v σ)
 | .store n a x=>(ev env a).bind fun p=>(ev env x).bind fun v=>(mD bars σ n p v).bind fun σ'=>some (.val (.tup []) σ')
 | .nilc x=>match ev env x with
  | some (.k _)=>none
  | some (.fn (.func f) cap)=>some (.val (.fn (.func f) cap) σ)
  | some (.fn _ _)=>none
  | some v=>some (.val v σ)
  | none=>none
 | .bin op x y=>(ev env x).bind fun a=>(ev env y).bind fun b=>(vb op a b).bind fun v=>some (.val v σ)
 | .beq neg x y=>match ev env x,ev env y with
  | some (.k (.bool a)),some (.k (.bool b))=>some (.val (.b (if neg then !(a == b) else a == b)) σ)
  | _,_=>none
 | .stq kd neg x y=>match ev env x,ev env y with
  | some (.agg a),some (.agg b)=>(zu kd a).bind fun ka=>(zu kd b).bind fun kb=>(eqS ka kb).bind fun c=>some (.val (.b (c != neg)) σ)
  | _,_=>none
 | .not x=>(ev env x).bind fun a=>(unE a).bind fun v=>some (.val v σ)
 | .neg x=>match ev env x with
  | some (.k (.int j n))=>some (.val (.k (.int j (j.wrap (-n)))) σ)
  | _=>none
 | .conv j x=>match ev env x with
  | some (.k (.int _ n))=>some (.val (.k (.int j (j.wrap n))) σ)
  | _=>none
 | .strc x=>match ev env x with
  | some (.k (.int _ n))=>some (.val (.s (Utf8.encode n)) σ)
  | _=>none
 | .miface t x=>(ev env x).bind fun v=>some (.val (.iface t (norm v)) σ)
 | .mfunc f cap=>(evs env cap).bind fun vs=>some (.val (.fn f vs) σ)
 | .mbm f fs=>(evs env fs).bind fun vs=>some (.val (.bm f vs) σ)
 | .isnil neg x=>match ev env x with
  | some (.iface _ _)=>some (.val (.b neg) σ)
  | some (.k .nilIface)=>some (.val (.b (!neg)) σ)
  | _=>none
 | .slnil neg x=>match ev env x with
  | some (.k (.slice a _ _))=>some (.val (.b (a.isNone != neg)) σ)
  | some (.sl _ (_::_))=>some (.val (.b neg) σ)
  | some (.ow _ _ (_::_))=>some (.val (.b neg) σ)
  | _=>none
 | .mmap=>some (.val (.map σ.length) (σ++[.mp []]))
 | .mslice esz zero l=>match ev env l with
  | some (.k (.int .i64 n))=>if 0≤n∧n≤LIM∧zero.length=esz then some (.val (.rs σ.length 0 0 n.toNat) (σ++[.arr 0 esz (List.replicate n.toNat zero)])) else none
  | _=>none
 | .mslp esz zero l=>match ev env l with
  | some (.k (.int .i64 n))=>if 0≤n∧n≤LIM∧zero.length=esz then some (.val (.sl true (List.replicate n.toNat zero)) σ) else none
  | _=>none
 | .slice esz x lo hi mx=>(ev env x).bind fun v=>(evo env lo).bind fun l=>(evo env hi).bind fun h=>(evo env mx).bind fun m=>(rD σ esz v l h m).bind fun r=>some (.val r σ)
 | .faddr off x=>match ev env x with
  | some (.ptr id o)=>some (.val (.ptr id (o+off)) σ)
  | some (.pa id ver i o)=>some (.val (.pa id ver i (o+off)) σ)
  | some (.pe cs o)=>some (.val (.pe cs (o+off)) σ)
  | _=>none
 | .fld off n x=>match ev env x with
  | some (.agg cs)=>(tX cs off (n.getD 1)).bind fun c=>(mkv n c).bind fun v=>some (.val v σ)
  | _=>none
 | .iaddr arr esz x i=>match ev env x,ev env i with
  | some (.ptr id o),some (.k (.int .i64 n))=>match arr with
   | some len=>if 0≤n∧n<len then some (.val (.ptr id (o+n.toNat * esz)) σ) else none
   | none=>none
  | some (.sl _ es),some (.k (.int .i64 n))=>if 0≤n∧arr=none then (es[n.toNat]?).bind fun e=>if e.length=esz then some (.val (.pe e 0) σ) else none else none
  | some (.ow _ _ es),some (.k (.int .i64 n))=>if 0≤n∧arr=none then (es[n.toNat]?).bind fun e=>if e.length=esz then some (.val (.pe e 0) σ) else none else none
  | some (.rs id ver off len),some (.k (.int .i64 n))=>if 0≤n∧n<len∧arr=none then
    match σ[id]? with
    | some (.arr v k es)=>if v=ver∧k=esz then some (.val (.pa id ver (off+n.toNat) 0) σ) else none
    | some (.pt v k es _)=>if v=ver∧k=esz then some (.val (.pa id ver (off+n.toNat) 0) σ) else none
    | _=>none
   else none
  | _,_=>none
 | .idx x i=>match ev env x,ev env i with
  | some (.k (.string s)),some (.k (.int _ n))=>if 0≤n then (s[n.toNat]?).bind fun b=>some (.val (.k (.int .u8 b.toNat)) σ) else none
  | _,_=>none
 | .lookup str zero m key ok=>match ev env m,ev env key with
  | some (.map id),some (.k key)=>match σ[id]? with
   | some (.mp l)=>(wr str l key).bind fun x=>some (.val (if ok then .tup [x.getD zero,.b x.isSome] else x.getD zero) σ)
   | _=>none
  | _,_=>none
 | .mupd str m key v=>match ev env m,ev env key,ev env v with
  | some (.map id),some (.k key),some v=>match σ[id]? with
   | some (.mp l)=>if below 0 (norm v) then (rE str l key (norm v)).bind fun l'=>some (.val (.tup []) (σ.set id (.mp l'))) else none
   | _=>none
  | _,_,_=>none
 | .lookup2 kd zero m key ok=>match ev env m,ev env key with
  | some (.map id),some (.agg cs)=>(zu kd cs).bind fun ks=>match σ[id]? with
   | some (.mp l)=>(yX l ks).bind fun x=>some (.val (if ok then .tup [x.getD zero,.b x.isSome] else x.getD zero) σ)
   | _=>none
  | _,_=>none
 | .mupd2 kd m key v=>match ev env m,ev env key,ev env v with
  | some (.map id),some (.agg cs),some v=>(zu kd cs).bind fun ks=>match σ[id]? with
   | some (.mp l)=>if below 0 (norm v) then (yY l ks (norm v)).bind fun l'=>some (.val (.tup []) (σ.set id (.mp l'))) else none
   | _=>none
  | _,_,_=>none
 | .del str m key=>match ev env m,ev env key with
  | some (.map id),some (.k key)=>match σ[id]? with
   | some (.mp l)=>(FI str l key).bind fun l'=>some (.val (.tup []) (σ.set id (.mp l')))
   | _=>none
  | _,_=>none
 | .tas t zero ok x=>match ev env x with
  | some (.iface u v)=>if u=t then some (.val (if ok then .tup [v,.b true] else v) σ) else if ok then some (.val (.tup [zero,.b false]) σ) else none
  | some (.k .nilIface)=>if ok then some (.val (.tup [zero,.b false]) σ) else none
  | _=>none
 | .extr i x=>match ev env x with
  | some (.tup vs)=>(vs[i]?).bind fun v=>some (.val v σ)
  | _=>none
 | .call f args=>(evs env args).bind fun vs=>kR env σ f vs
 | .callq f args=>(evs env args).bind fun vs=>kR env σ f vs
 | .callg f args=>(evs env args).bind fun vs=>kR env σ f vs
 | .callm _ f args=>(evs env args).bind fun vs=>kR env σ f vs
 | .app esz x y=>(ev env x).bind fun v=>(ev env y).bind fun w=>(df σ v).bind fun xs=>(df σ w).bind fun ys =>
   if bV esz xs∧bV esz ys then (tM esz σ v ys).bind fun p=>some (.val p.1 p.2) else none
 | .appz esz x y=>(ev env x).bind fun v=>(ev env y).bind fun w=>(df σ w).bind fun ys=>P3 esz σ v ys
 | .appo esz x y=>match x with
  | .t s=>match bw env s with
   | some (.sl true [])=>(ev env y).bind fun w=>(df σ w).bind fun ys =>
     if bV esz ys=true then
      if ys.length=0 then some (.val (.sl true []) σ)
      else if ys.length≤LIM then some (.val (.ow σ.length ys.length ys) (σ++[.tok esz ys.length])) else none
     else none
   | _=>none
  | .c _=>none
 | .allocb T E=>some (.val (.ptr (σ.length+1) 0) (σ++[.barr E 0 ⟨#[]⟩]++[.bld T false (.sl true []) σ.length]))
 | .apps x y=>(ev env x).bind fun v=>(ev env y).bind fun w=>(df σ v).bind fun xs=>(FH w).bind fun ys =>
   if bV 1 xs=true then (tM 1 σ v ys).bind fun p=>some (.val p.1 p.2) else none
 | .appx esz x y=>(ev env x).bind fun v=>(ev env y).bind fun w=>(df σ v).bind fun xs=>(df σ w).bind fun ys =>
   if bV esz xs=true∧bV esz ys=true then
    if uS v=true∧0<ys.length then
     if xs.length+ys.length≤LIM∧below.belowEs 0 (xs++ys)=true then some (.val (.rs σ.length 1 0 (xs.length+ys.length)) (σ++[.arr 1 esz (xs++ys)])) else none
    else (tM esz σ v ys).bind fun p=>some (.val p.1 p.2)
   else none
 | .appq esz x y=>(ev env x).bind fun v=>(ev env y).bind fun w=>(df σ w).bind fun ys=>match v with
  | .sl t es=>if bV esz es=true∧bV esz ys=true then
    if ys.length=0 then some (.val (.sl t es) σ)
    else if t=true∧es.length+ys.length≤LIM then some (.val (.sl false (es++ys)) σ) else none
   else none
  | _=>none
 | .appm av esz x y=>(ev env x).bind fun v=>if gy env av v then (ev env y).bind fun u=>(tY esz σ v u).bind fun p=>some (.val p.1 p.2) else none
 | .loadb m n a=>(ev env a).bind fun p=>if lk env m p then (qg σ n p).bind fun v=>some (.val v σ) else none
 | .storeb b n a x=>(ev env a).bind fun p=>if lk env b p then (ev env x).bind fun v=>(mD bars σ n p v).bind fun σ'=>some (.val (.tup []) σ') else none
 | .storem av n a x=>(ev env a).bind fun p=>if gy env av p then (ev env x).bind fun v=>(mD bars σ n p v).bind fun σ'=>some (.val (.tup []) σ') else none
 | .cap x=>match ev env x with
  | some (.sl true es)=>if es.length<2 ^ 63 then some (.val (.i es.length) σ) else none
  | _=>none
 | .appr esz zero x l=>match ev env x,ev env l with
  | some (.sl true []),some (.k (.int .i64 n))=>if 0<n∧n≤LIM∧zero.length=esz then some (.val (.rs σ.length 0 0 n.toNat) (σ++[.arr 0 esz (List.replicate n.toNat zero)])) else none
  | _,_=>none
 | .len str x=>(ev env x).bind fun v=>(Ow str v).bind fun n=>if n<2 ^ 63 then some (.val (.i n) σ) else none
 | .mm isMax x y=>match ev env x,ev env y with
  | some (.k (.int .i64 a)),some (.k (.int .i64 b))=>some (.val (.i (if isMax then max a b else min a b)) σ)
  | _,_=>none
 | .dfr f args=>(evs env args).bind fun vs=>some (.dfr f vs σ)
 | .panic x=>match ev env x with
  | some (.iface t v)=>some (.pan (.iface t v) σ)
  | _=>none
 | .recover=>some (.rcv σ)
inductive Ex where
 | norm
 | exit (id:Nat)
 | ret
 | pan (v:PV)
 deriving Inhabited
inductive Out where
 | ret (v:PV)
 | pan (v:PV)
 deriving Inhabited
abbrev bY:=List Nat→FuncId→List PV→Sto→Option (Out×Sto)
def restrict (keep:List Nat) (env:Env):Env :=
 match keep with
 | []=>[]
 | s::r=>match bw env s with
  | some v=>(s,v)::restrict r env
  | none=>restrict r env
def dP (env:Env):Option (Nat×Bool)→Option Bool
 | none=>some true
 | some (s,b)=>match bw env s with
  | some (.k (.bool b'))=>some (b == b')
  | some (.tup [])=>some false
  | _=>none
def d7 (env:Env) (dst:Option Nat) (v:PV):Env :=
 match dst with
 | some d=>(d,v)::env
 | none=>env
def IOp.quiet:IOp→Bool
 | .callq ..=>true
 | _=>false
def IOp.growq:IOp→Bool
 | .callg ..=>true
 | _=>false
def IOp.avs:IOp→List Nat
 | .callm av _ _=>av
 | .storem av _ _ _=>av
 | .appm av _ _ _=>av
 | _=>[]
def IOp.bad (o:IOp) (env:Env) (σ σ':Sto):Prop:=(o.quiet=true∧σ'≠σ)∨(o.growq=true∧¬ ∃ ext,σ'=σ++ext)∨∃ n,n∈o.avs∧∃ v id,bw env n=some v∧top v=some id∧σ'[id]?≠σ[id]?
open Classical in
def cL (calls:bY) (bars:List Nat) (o:IOper) (env:Env) (σ:Sto):Option (Ex×Env×Sto) :=
 match dP env o.guard with
 | some true =>
  match opE bars env σ o.op with
  | some (.val v σ')=>some (.norm,d7 env o.dst v,σ')
  | some (.call f args σ') =>
   match calls bars f args σ' with
   | some (.ret v,σ'')=>if o.op.bad env σ' σ'' then none else some (.norm,d7 env o.dst v,σ'')
   | some (.pan v,σ'')=>some (.pan v,env,σ'')
   | none=>none
  | some (.pan v σ')=>some (.pan v,env,σ')
  | _=>none
 | some false=>some (.norm,d7 env o.dst (.tup []),σ)
 | none=>none
def bD (calls:bY) (bars:List Nat):List IOper→Env→Sto→Option (Ex×Env×Sto)
 | [],env,σ=>some (.norm,env,σ)
 | o::r,env,σ=>match cL calls bars o env σ with
  | some (.norm,env',σ')=>bD calls bars r env' σ'
  | r=>r
def psE (bars:List Nat) (env:Env) (σ:Sto):List Ps→Option (Env×Sto)
 | []=>some (env,σ)
 | .own s esz::r=>match bw env s with
  | some (.sl true es)=>psE bars ((s,.ow σ.length 0 es)::env) (σ++[.tok esz 0]) r
  | some _=>psE bars env σ r
  | none=>none
 | .ownAt s off esz::r=>match bw env s with
  | some (.ptr id o)=>match σ[id]? with
   | some (.var cs)=>match cs[o+off]? with
    | some (.sl true es)=>if aj bars id (.ow σ.length 0 es) then psE bars env (σ.set id (.var (cs.set (o+off) (.ow σ.length 0 es)))++[.tok esz 0]) r else none
    | some _=>psE bars env σ r
    | none=>none
   | _=>none
  | _=>none
 | .shutp s::r=>match bw env s with
  | some v=>psE bars ((s,norm v)::env) σ r
  | none=>none
 | .com s off::r=>match bw env s with
  | some (.ptr id o)=>match σ[id]? with
   | some (.var cs)=>match cs[o+off]? with
    | some (.rs j ver of len)=>match σ[j]? with
     | some (.pt v k es z)=>if v=ver∧of=0∧len=es.length+1∧aj bars id (.ow j (v+1) (es++[z])) then psE bars env ((σ.set j (.tok k (v+1))).set id (.var (cs.set (o+off) (.ow j (v+1) (es++[z]))))) r else none
     | _=>psE bars env σ r
    | some _=>psE bars env σ r
    | none=>none
   | _=>none
  | _=>none
 | .frz s::r=>match bw env s with
  | some (.rs id ver off len)=>match σ[id]? with
   | some (.arr v k es)=>if v=ver∧off+len≤es.length then psE bars ((s,.sl false ((es.drop off).take len))::env) (σ.set id (.tok k (v+1))) r else none
   | _=>psE bars env σ r
  | some _=>psE bars env σ r
  | none=>none
 | .mut _::_=>none
def dA (n:Nat):Env→Bool
 | []=>true
 | (_,v)::r=>below n v && dA n r
def dB (step:Env×Sto→Option (Ex×Env×Sto)):Nat→Env×Sto→Option (Ex×Env×Sto)
 | 0,_=>none
 | n+1,x=>match step x with
  | some (.norm,y)=>dB step n y
  | r=>r
abbrev It:=(Env×Sto→Option (Ex×Env×Sto))→Env×Sto→Option (Ex×Env×Sto)
def sc (st:Nat) (pend:Option (Option Nat)):Option Ex :=
 match st,pend with
 | 0,none=>some .norm
 | 2,some none=>some .ret
 | 2,some (some id)=>some (.exit id)
 | _,_=>none
def DE:Ex→Option (Option (Option Nat))
 | .norm=>some none
 | .ret=>some (some none)
 | .exit id=>some (some (some id))
 | .pan _=>none
def lm:List Nat→List PV→Env→Env
 | p::ps,v::vs,env=>lm ps vs ((p,norm v)::env)
 | _,_,env=>env
def Opd.use:Opd→List Nat
 | .t n=>[n]
 | .c _=>[]
def Ox:Option Opd→List Nat
 | some x=>x.use
 | none=>[]
def Tgt.use:Tgt→List Nat
 | .f _=>[]
 | .v x=>x.use
 | .m x _=>x.use
def IOp.use:IOp→List Nat
 | .mov x=>x.use
 | .pick c a b=>c.use++a.use++b.use
 | .alloc _=>[]
 | .box _ x=>x.use
 | .build _ ps=>ps.flatMap fun p=>p.2.2.use
 | .bslice _ _ _ ps=>ps.flatMap fun p=>p.2.use
 | .bslm _ _ _ ps=>ps.flatMap fun p=>p.2.use
 | .load _ a=>a.use
 | .store _ a x=>a.use++x.use
 | .nilc x=>x.use
 | .bin _ x y=>x.use++y.use
 | .beq _ x y=>x.use++y.use
 | .stq _ _ x y=>x.use++y.use
 | .not x=>x.use
 | .neg x=>x.use
 | .conv _ x=>x.use
 | .strc x=>x.use
 | .miface _ x=>x.use
 | .mfunc _ xs=>xs.flatMap Opd.use
 | .mbm _ xs=>xs.flatMap Opd.use
 | .isnil _ x=>x.use
 | .slnil _ x=>x.use
 | .mmap=>[]
 | .mslice _ _ l=>l.use
 | .mslp _ _ l=>l.use
 | .slice _ x lo hi mx=>x.use++Ox lo++Ox hi++Ox mx
 | .faddr _ x=>x.use
 | .fld _ _ x=>x.use
 | .iaddr _ _ x i=>x.use++i.use
 | .idx x i=>x.use++i.use
 | .lookup _ _ m k _=>m.use++k.use
 | .mupd _ m k v=>m.use++k.use++v.use
 | .lookup2 _ _ m k _=>m.use++k.use
 | .mupd2 _ m k v=>m.use++k.use++v.use
 | .del _ m k=>m.use++k.use
 | .tas _ _ _ x=>x.use
 | .extr _ x=>x.use
 | .call f xs=>f.use++xs.flatMap Opd.use
 | .callq f xs=>f.use++xs.flatMap Opd.use
 | .callg f xs=>f.use++xs.flatMap Opd.use
 | .callm av f xs=>av++(f.use++xs.flatMap Opd.use)
 | .app _ x y=>x.use++y.use
 | .appz _ x y=>x.use++y.use
 | .appo _ x y=>x.use++y.use
 | .appq _ x y=>x.use++y.use
 | .appx _ x y=>x.use++y.use
 | .allocb ..=>[]
 | .apps x y=>x.use++y.use
 | .appm av _ x y=>av++(x.use++y.use)
 | .loadb m _ a=>[m]++a.use
 | .cap x=>x.use
 | .appr _ _ x l=>x.use++l.use
 | .storeb b _ a x=>[b]++(a.use++x.use)
 | .storem av _ a x=>av++(a.use++x.use)
 | .len _ x=>x.use
 | .mm _ x y=>x.use++y.use
 | .dfr _ xs=>xs.flatMap Opd.use
 | .panic x=>x.use
 | .recover=>[]
def IOper.use (x:IOper):List Nat:=x.op.use++(match x.guard with|some (s,_)=>[s]|none=>[])
def IOp.kind:IOp→Nat
 | .mov _|.pick ..|.build ..|.bslice ..|.mslp ..|.faddr ..|.fld ..|.nilc _|.extr ..|.miface ..|.mfunc ..|.mbm ..|.isnil ..|.slnil ..|.bin ..|.beq ..|.stq ..|.not _|.neg _|.conv ..|.strc _|.len ..|.mm ..|.idx ..|.tas ..=>0
 | .load ..|.loadb ..|.slice ..|.iaddr ..|.lookup ..|.lookup2 ..=>1
 | .callq ..|.appq ..=>2
 | .callg ..=>5
 | .callm ..=>6
 | .storeb ..=>7
 | .storem ..|.appm ..=>8
 | .alloc _=>3
 | _=>4
def Oy (o:IOper):Bool:=o.op.kind == 2 || o.op.kind == 4 || o.op.kind == 5 || o.op.kind == 6
def En (o:IOper):Bool:=o.op.kind == 0 || o.op.kind == 1 || (match o.op with|.box ..=>true|_=>false)
def Eo (ops:List IOper) (env:Env):Env:=env.filter fun p=>!(ops.any fun o=>o.dst == some p.1)
def evC (calls:bY) (it:It):List Nat→IC→Env→Sto→Option (Ex×Env×Sto)
 | _,.skip,env,σ=>some (.norm,env,σ)
 | _,.stuck,_,_=>none
 | bars,.seq a b,env,σ=>match evC calls it bars a env σ with
  | some (.norm,env',σ')=>evC calls it bars b env' σ'
  | r=>r
 | bars,.reg d ops keep,env,σ=>match bD calls bars ops env σ with
  | some (.norm,env',σ')=>some (.norm,restrict keep env',σ')
  | some (.pan v,env',σ')=>(match d with
   | none=>some (.pan v,env',σ')
   | some ix=>if ix.length=ops.length+1 then some (.pan v,Eo ops env,σ') else none)
  | r=>if d.isSome then none else r
 | bars,.ps l c,env,σ=>match psE bars env σ l with
  | some (env',σ')=>evC calls it bars c env' σ'
  | none=>none
 | bars,.psa c l,env,σ=>match evC calls it bars c env σ with
  | some (.norm,env',σ')=>(match psE bars env' σ' l with
   | some (env'',σ'')=>some (.norm,env'',σ'')
   | none=>none)
  | r=>r
 | bars,.cond c a b,env,σ=>match ev env c with
  | some (.k (.bool true))=>evC calls it bars a env σ
  | some (.k (.bool false))=>evC calls it bars b env σ
  | _=>none
 | bars,.block id a,env,σ=>match evC calls it bars a env σ with
  | some (.exit j,env',σ')=>if j=id then some (.norm,env',σ') else some (.exit j,env',σ')
  | r=>r
 | bars,.loop a,env,σ=>it (fun x=>evC calls it bars a x.1 x.2) (env,σ)
 | bars,.cut a keep,env,σ=>match evC calls it (σ.length::bars) a env σ with
  | some (.norm,env',σ')=>if dA σ.length (restrict keep env') then some (.norm,restrict keep env',σ'.take σ.length) else none
  | some (.exit id,env',σ')=>if dA σ.length env' then some (.exit id,env',σ'.take σ.length) else some (.exit id,env',σ')
  | some (.ret,env',σ')=>if dA σ.length env' then some (.ret,env',σ'.take σ.length) else some (.ret,env',σ')
  | r=>r
 | bars,.rfunc f ps keep asg bd,env,σ=>match ev env f with
  | some (.fn (.func g) cap)=>if g<YB then
    match calls bars g (.yld σ.length::cap) (σ++[.loop (restrict keep env) ps asg bd 0 none]) with
    | some (.ret _,σ')=>match σ'[σ.length]? with
     | some (.loop env' ps' a' b' st pend)=>(sc st pend).bind fun e=>some (e,env,σ'.set σ.length (.loop env' ps' a' b' 3 pend))
     | _=>none
    | some (.pan v,σ')=>some (.pan v,env,σ')
    | none=>none
   else none
  | _=>none
 | _,.dfr ..,_,_=>none
 | _,.exit id keep,env,σ=>some (.exit id,restrict keep env,σ)
 | _,.ret keep,env,σ=>some (.ret,restrict keep env,σ)
def ep (i:Nat):List PV→Env
 | []=>[]
 | v::r=>(i,norm v)::ep (i+1) r
def qU (i:Nat):List PV→Env
 | []=>[]
 | v::r=>(i,v)::qU (i+1) r
def gg (m:Nat) (args:List PV):Env:=if m=5∨m=7∨m=8 then qU 0 args else ep 0 args
def Ep (env:Env) (σ:Sto):ResV→Option PV
 | .t s=>bw env s
 | .cell s n=>(bw env s).bind fun a=>qg σ n a
def jC (env:Env) (σ:Sto):List ResV→Option (List PV)
 | []=>some []
 | x::r=>(Ep env σ x).bind fun v=>(jC env σ r).bind fun vs=>some (v::vs)
def rG:List PV→PV
 | [v]=>v
 | l=>.tup l
def mF (mode n:Nat) (v:PV) (σ:Sto):Option (PV×Sto) :=
 if mode=1∨mode=8 then if below n v then some (v,σ.take n) else none
 else if mode=4 then some (norm v,σ)
 else if mode=6∨mode=7 then some (v,σ)
 else if below n (norm v) then some (norm v,σ.take n) else none
abbrev gk:=FuncId→Option (List PV→Sto→Option (Out×Sto))
abbrev sJ:=List Nat→IC→Env→Sto→Option (Ex×Env×Sto)
def opV (bars:List Nat) (o:IOper) (env:Env) (σ:Sto):Option (Env×Sto) :=
 match dP env o.guard with
 | some true =>
  match opE bars env σ o.op with
  | some (.val v σ')=>some (d7 env o.dst v,σ')
  | _=>none
 | some false=>some (d7 env o.dst (.tup []),σ)
 | none=>none
def vc (bars:List Nat):List IOper→Option PV→Env→Sto→Option (Option PV×Env×Sto)
 | [],u,env,σ=>some (u,env,σ)
 | o::r,u,env,σ=>match o with
  | ⟨d,.recover,none⟩=>vc bars r none (d7 env d (u.getD (.k .nilIface))) σ
  | o=>match opV bars o env σ with
   | some (env',σ')=>vc bars r u env' σ'
   | none=>none
def xB:List IOper→Bool
 | []=>false
 | o::r=>(match o.op with|.recover=>true|_=>false) || xB r
def ws (C:sJ) (bars:List Nat) (c:IC) (u:Option PV) (env:Env) (σ:Sto):Option (Ex×Option PV×Env×Sto) :=
 match C bars c env σ with
 | some (e,env',σ')=>some (e,u,env',σ')
 | none=>none
def evR (C:sJ) (bars:List Nat):IC→Option PV→Env→Sto→Option (Ex×Option PV×Env×Sto)
 | .seq a b,u,env,σ=>match evR C bars a u env σ with
  | some (.norm,u',env',σ')=>evR C bars b u' env' σ'
  | r=>r
 | .cond c a b,u,env,σ=>match ev env c with
  | some (.k (.bool true))=>evR C bars a u env σ
  | some (.k (.bool false))=>evR C bars b u env σ
  | _=>none
 | .reg none ops keep,u,env,σ =>
  if xB ops then match vc bars ops u env σ with
   | some (u',env',σ')=>some (.norm,u',restrict keep env',σ')
   | none=>none
  else ws C bars (.reg none ops keep) u env σ
 | c,u,env,σ=>ws C bars c u env σ
def pB (T:FuncId→Option IF) (C:sJ) (bars:List Nat) (g:FuncId) (args:List PV) (u:Option PV) (σ:Sto):Option (Option PV×Sto) :=
 match T g with
 | none=>none
 | some fn=>if fn.mode=3∧args.length=fn.np∧fn.res.isEmpty then
   match evR C (σ.length::bars) fn.body u (ep 0 args) σ with
   | some (.norm,u',_,σ')|some (.ret,u',_,σ')=>some (u',σ'.take σ.length)
   | _=>none
  else none
def Hz (env:Env):Tgt→Option (FuncId×List PV)
 | .f n=>if n<YB then some (n,[]) else none
 | .v x=>match ev env x with
  | some (.fn (.func n) cap)=>if n<YB then some (n,cap) else none
  | _=>none
 | .m ..=>none
def AL (C:sJ) (bars:List Nat) (c:IC) (env:Env) (σ:Sto):Option (Option PV×Env×Sto) :=
 match C bars c env σ with
 | some (.norm,env',σ')=>some (none,env',σ')
 | some (.ret,env',σ')=>some (none,env',σ')
 | some (.pan v,env',σ')=>some (some v,env',σ')
 | _=>none
def evD (T:FuncId→Option IF) (C:sJ) (bars:List Nat):IC→Env→Sto→Option (Option PV×Env×Sto)
 | .seq a b,env,σ=>match C bars a env σ with
  | some (.norm,env',σ')=>evD T C bars b env' σ'
  | some (.ret,env',σ')=>some (none,env',σ')
  | some (.pan v,env',σ')=>some (some v,env',σ')
  | _=>none
 | .dfr pre keep f args rest,env,σ=>match vc bars pre none env σ with
  | some (_,env1,σ1)=>match evs env1 args,Hz env1 f with
   | some vs,some (g,cap)=>match evD T C bars rest (restrict keep env1) σ1 with
    | some (u,env2,σ2)=>match pB T C bars g (vs++cap) u σ2 with
     | some (u',σ3)=>some (u',env2,σ3)
     | none=>none
    | none=>none
   | _,_=>none
  | none=>none
 | c,env,σ=>AL C bars c env σ
def nM (calls:bY) (it:It):bY:=fun bars l args σ =>
 match σ[l]? with
 | some (.loop env ps asg bd 0 none)=>if args.length=ps.length then
   match evC calls it (σ.length::bars) asg (lm ps args env) σ with
   | some (.norm,env1,σ1)=>match σ1[l]? with
    | some (.loop env' ps' a' b' 0 none) =>
     match evC calls it (σ.length::bars) bd env1 (σ1.set l (.loop env' ps' a' b' 1 none)) with
     | some (e,_,σ2)=>match σ2[l]? with
      | some (.loop env' ps' a' b' 1 none)=>(DE e).bind fun p=>some (.ret (.b p.isNone),(σ2.set l (.loop env' ps' a' b' (if p.isNone then 0 else 2) p)).take σ.length)
      | _=>none
     | none=>none
    | _=>none
   | _=>none
  else none
 | _=>none
def AM (fn:IF) (n:Nat):Option (Option PV×Env×Sto)→Option (Out×Sto)
 | some (none,env,σ')=>(jC env σ' fn.res).bind fun vs=>(mF fn.mode n (rG vs) σ').bind fun p=>some (.ret p.1,p.2)
 | some (some v,_,σ')=>if below n v then some (.pan v,σ'.take n) else none
 | none=>none
def body (T:FuncId→Option IF) (H:gk) (calls:bY) (it:It):bY:=fun bars f args σ =>
 if YB≤f then nM calls it bars (f - YB) args σ else
 match H f with
 | some h=>h args σ
 | none=>match T f with
  | none=>none
  | some fn=>if args.length=fn.np then
    if fn.mode=2 then AM fn σ.length (evD T (evC calls it) (σ.length::bars) fn.body (ep 0 args) σ) else if fn.mode=3 then none else
    match evC calls it (σ.length::bars) fn.body (gg fn.mode args) σ with
    | some (.norm,env,σ')|some (.ret,env,σ')=>(jC env σ' fn.res).bind fun vs=>(mF fn.mode σ.length (rG vs) σ').bind fun p=>some (.ret p.1,p.2)
    | some (.pan v,_,σ')=>if below σ.length v then some (.pan v,σ'.take σ.length) else none
    | _=>none
   else none
def run (T:FuncId→Option IF) (H:gk):Nat→bY
 | 0,_,_,_,_=>none
 | k+1,bars,f,args,σ=>body T H (run T H k) (fun s x=>dB s k x) bars f args σ
end
end Go.Ev

namespace Go.Ev
class CodeRel where
 cd:IC→Code→Nat→Prop
structure Kn where
 ρ:Nat→Nat×Nat
 esz:Nat→Nat
 gen:Nat→Nat
 tok:Nat→Option (Nat×Nat×Nat)
 M:Nat→Nat→Option Value
 cap:Nat→Nat
def nN (κ:Kn) (id len cap:Nat) (a:Option Addr):Prop :=
 match κ.tok id with
 | none=>cap=len
 | some (b,e,f)=>0<f∧cap=len+f∧∃ o,a=some ⟨b,o,none⟩∧o+len * κ.esz id=e
def Er (κ:Kn) (id off len cap:Nat) (a:Option Addr):Prop :=
 0<cap→a=some ⟨(κ.ρ id).1,(κ.ρ id).2+off * κ.esz id,none⟩∧(κ.ρ id).2+(off+cap) * κ.esz id≤κ.cap (κ.ρ id).1
mutual
def RelV (κ:Kn):PV→Value→Prop
 | .k v,x=>x=v
 | .ptr id off,x=>∃ q,x=.pointer (some q)∧1≤κ.gen id∧(κ.gen id=1→q=⟨(κ.ρ id).1,(κ.ρ id).2+off,none⟩)
 | .pa id ver i off,x=>ver≤κ.gen id∧∃ q,x=.pointer (some q)∧(κ.gen id=ver→q=⟨(κ.ρ id).1,(κ.ρ id).2+i * κ.esz id+off,none⟩)
 | .pe cs off,x=>∃ b o,x=.pointer (some ⟨b,o+off,none⟩)∧RelM κ b o cs
 | .sl t es,x=>∃ a cap esz,x=.slice a es.length cap∧es.length≤cap∧(t=true→cap=es.length)∧(es≠[]→∃ b o,a=some ⟨b,o,none⟩∧RelE κ esz b o es)
 | .ow id n es,x=>n≤κ.gen id∧∃ a cap esz,x=.slice a es.length cap∧es.length≤cap∧(es≠[]→∃ b o,a=some ⟨b,o,none⟩∧RelE κ esz b o es)∧(κ.gen id=n→nN κ id es.length cap a)
 | .rs id ver off len,x=>ver≤κ.gen id∧∃ a cap,x=.slice a len cap∧len≤cap∧(κ.gen id=ver→Er κ id off len cap a)
 | .agg cs,x=>∃ vs,x=.agg vs∧RelL κ cs vs.toList∧∀ v∈vs.toList,v.oneCell'=true
 | .tup cs,x=>∃ vs,x=.tuple vs∧RelL κ cs vs.toList
 | .fn f cap,x=>∃ vs,x=.func f #[] vs∧RelL κ cap vs.toList
 | .bm f fs,x=>∃ vs,x=.func (.func f) vs #[]∧RelL κ fs vs.toList
 | .yld id,x=>∃ b,x=.func (.yield b) #[] #[]∧1≤κ.gen id∧(κ.gen id=1→b=(κ.ρ id).1)
 | .map id,x=>∃ q,x=.map (some q)∧1≤κ.gen id∧(κ.gen id=1→q=(κ.ρ id).1)
 | .iface t v,x=>∃ y,x=.iface t y∧RelV κ v y
def RelL (κ:Kn):List PV→List Value→Prop
 | [],l=>l=[]
 | p::r,l=>∃ v l',l=v::l'∧RelV κ p v∧RelL κ r l'
def RelM (κ:Kn) (b o:Nat):List PV→Prop
 | []=>True
 | p::r=>(∃ v,κ.M b o=some v∧v.oneCell'=true∧RelV κ p v)∧RelM κ b (o+1) r
def RelE (κ:Kn) (esz b o:Nat):List (List PV)→Prop
 | []=>True
 | e::r=>e.length=esz∧RelM κ b o e∧RelE κ esz b (o+esz) r
end
structure Ext (n:Nat) (κ κ':Kn):Prop where
 ρ:∀ id,id<n→κ'.gen id=κ.gen id→κ'.ρ id=κ.ρ id
 esz:∀ id,id<n→κ'.esz id=κ.esz id
 gen:∀ id,id<n→κ.gen id≤κ'.gen id
 tok:∀ id,id<n→κ'.gen id=κ.gen id→κ'.tok id=κ.tok id
 M:∀ b o v,κ.M b o=some v→κ'.M b o=some v
 cap:∀ b,κ.cap b≤κ'.cap b
theorem Ext.refl (n:Nat) (κ:Kn):Ext n κ κ:=⟨fun _ _ _=>rfl,fun _ _=>rfl,fun _ _=>Nat.le_refl _,fun _ _ _=>rfl,fun _ _ _ h=>h,fun _=>Nat.le_refl _⟩
theorem Ext.trans {n m:Nat} {κ κ' κ'':Kn} (h:Ext n κ κ') (h':Ext m κ' κ'') (hnm:n≤m):Ext n κ κ'':=by
 have hg:∀ id,id<n→κ''.gen id=κ.gen id→κ'.gen id=κ.gen id∧κ''.gen id=κ'.gen id:=fun id hid he=>by
  have h1:=h.gen id hid
  have h2:=h'.gen id (by omega)
  omega
 refine ⟨fun id hid he=>?_,fun id hid=>?_,fun id hid=>?_,fun id hid he=>?_,fun b o v hm=>h'.M b o v (h.M b o v hm),fun b=>Nat.le_trans (h.cap b) (h'.cap b)⟩
 ·rw [h'.ρ id (by omega) (hg id hid he).2,h.ρ id hid (hg id hid he).1]
 ·rw [h'.esz id (by omega),h.esz id hid]
 ·exact Nat.le_trans (h.gen id hid) (h'.gen id (by omega))
 ·rw [h'.tok id (by omega) (hg id hid he).2,h.tok id hid (hg id hid he).1]
theorem FJ {n:Nat} {κ κ':Kn} (h:Ext n κ κ') {id len cap:Nat} {a:Option Addr} (hid:id<n) (hg:κ'.gen id=κ.gen id) (hl:nN κ id len cap a):nN κ' id len cap a:=by
 unfold nN at *
 rw [h.tok id hid hg,h.esz id hid]
 split
 ·rename_i he; rw [he] at hl; exact hl
 ·rename_i b e f he
  rw [he] at hl
  exact hl
theorem FK {n:Nat} {κ κ':Kn} (h:Ext n κ κ') {id off len cap:Nat} {a:Option Addr} (hid:id<n) (hg:κ'.gen id=κ.gen id) (hl:Er κ id off len cap a):Er κ' id off len cap a:=by
 unfold Er at *
 rw [h.ρ id hid hg,h.esz id hid]
 exact fun hc=>⟨(hl hc).1,Nat.le_trans (hl hc).2 (h.cap _)⟩
mutual
theorem RelV.mono {n:Nat} {κ κ':Kn} (h:Ext n κ κ'):∀ (p:PV) (x:Value),below n p=true→RelV κ p x→RelV κ' p x
 | .k v,x,_,hr=>by simpa [RelV] using hr
 | .ptr id off,x,hb,hr=>by
  simp only [below,decide_eq_true_eq] at hb
  simp only [RelV] at *
  obtain ⟨q,hx,hge,hr⟩:=hr
  have hgl:=h.gen id hb
  refine ⟨q,hx,by omega,fun hg=>?_⟩
  have h0:κ.gen id=1:=by omega
  rw [hr h0,h.ρ id hb (by omega)]
 | .pa id ver i off,x,hb,hr=>by
  simp only [below,decide_eq_true_eq] at hb
  simp only [RelV] at *
  have hle:=h.gen id hb
  obtain ⟨h1,q,hx,hr⟩:=hr
  refine ⟨by omega,q,hx,fun hg=>?_⟩
  have h0:κ.gen id=ver:=by omega
  rw [hr h0,h.ρ id hb (by omega),h.esz id hb]
 | .pe cs off,x,hb,hr=>by
  simp only [below] at hb
  simp only [RelV] at *
  obtain ⟨b,o,hx,hm⟩:=hr
  exact ⟨b,o,hx,RelM.mono h b o cs hb hm⟩
 | .sl t es,x,hb,hr=>by
  simp only [below] at hb
  simp only [RelV] at *
  obtain ⟨a,cap,esz,hx,hc,ht,he⟩:=hr
  exact ⟨a,cap,esz,hx,hc,ht,fun hne=>by
   obtain ⟨b,o,ha,hE⟩:=he hne
   exact ⟨b,o,ha,RelE.mono h esz b o es hb hE⟩⟩
 | .ow id m es,x,hb,hr=>by
  simp only [below,Bool.and_eq_true,decide_eq_true_eq] at hb
  simp only [RelV] at *
  obtain ⟨hle,a,cap,esz,hx,hc,he,hl⟩:=hr
  have hge:=h.gen id hb.1
  exact ⟨by omega,a,cap,esz,hx,hc,fun hne=>by
   obtain ⟨b,o,ha,hE⟩:=he hne
   exact ⟨b,o,ha,RelE.mono h esz b o es hb.2 hE⟩,fun hg=>FJ h hb.1 (by omega) (hl (by omega))⟩
 | .rs id ver off len,x,hb,hr=>by
  simp only [below,decide_eq_true_eq] at hb
  simp only [RelV] at *
  obtain ⟨hle,a,cap,hx,hc,hl⟩:=hr
  have hge:=h.gen id hb
  exact ⟨by omega,a,cap,hx,hc,fun hg=>FK h hb (by omega) (hl (by omega))⟩
 | .agg cs,x,hb,hr=>by
  simp only [below] at hb
  simp only [RelV] at *
  obtain ⟨vs,hx,hl,h1⟩:=hr
  exact ⟨vs,hx,RelL.mono h cs _ hb hl,h1⟩
 | .tup cs,x,hb,hr=>by
  simp only [below] at hb
  simp only [RelV] at *
  obtain ⟨vs,hx,hl⟩:=hr
  exact ⟨vs,hx,RelL.mono h cs _ hb hl⟩
 | .fn f cap,x,hb,hr=>by
  simp only [below] at hb
  simp only [RelV] at *
  obtain ⟨vs,hx,hl⟩:=hr
  exact ⟨vs,hx,RelL.mono h cap _ hb hl⟩
 | .map id,x,hb,hr=>by
  simp only [below,decide_eq_true_eq] at hb
  simp only [RelV] at *
  obtain ⟨q,hx,hge,hr⟩:=hr
  have hgl:=h.gen id hb
  refine ⟨q,hx,by omega,fun hg=>?_⟩
  have h0:κ.gen id=1:=by omega
  rw [hr h0,h.ρ id hb (by omega)]
 | .bm f fs,x,hb,hr=>by
  simp only [below] at hb
  simp only [RelV] at *
  obtain ⟨vs,hx,hl⟩:=hr
  exact ⟨vs,hx,RelL.mono h fs _ hb hl⟩
 | .yld id,x,hb,hr=>by
  simp only [below,decide_eq_true_eq] at hb
  simp only [RelV] at *
  obtain ⟨q,hx,hge,hr⟩:=hr
  have hgl:=h.gen id hb
  refine ⟨q,hx,by omega,fun hg=>?_⟩
  have h0:κ.gen id=1:=by omega
  rw [hr h0,h.ρ id hb (by omega)]
 | .iface t v,x,hb,hr=>by
  simp only [below] at hb
  simp only [RelV] at *
  obtain ⟨y,hx,hv⟩:=hr
  exact ⟨y,hx,RelV.mono h v y hb hv⟩
theorem RelL.mono {n:Nat} {κ κ':Kn} (h:Ext n κ κ'):∀ (l:List PV) (x:List Value),below.belowAll n l=true→RelL κ l x→RelL κ' l x
 | [],x,_,hr=>by simpa [RelL] using hr
 | p::r,x,hb,hr=>by
  simp only [below.belowAll,Bool.and_eq_true] at hb
  simp only [RelL] at *
  obtain ⟨v,l',hx,hv,hl⟩:=hr
  exact ⟨v,l',hx,RelV.mono h p v hb.1 hv,RelL.mono h r l' hb.2 hl⟩
theorem RelM.mono {n:Nat} {κ κ':Kn} (h:Ext n κ κ') (b o:Nat):∀ (l:List PV),below.belowAll n l=true→RelM κ b o l→RelM κ' b o l
 | [],_,_=>by simp [RelM]
 | p::r,hb,hr=>by
  simp only [below.belowAll,Bool.and_eq_true] at hb
  simp only [RelM] at *
  obtain ⟨⟨v,hm,h1,hv⟩,hl⟩:=hr
  exact ⟨⟨v,h.M _ _ _ hm,h1,RelV.mono h p v hb.1 hv⟩,RelM.mono h b (o+1) r hb.2 hl⟩
theorem RelE.mono {n:Nat} {κ κ':Kn} (h:Ext n κ κ') (esz b o:Nat):∀ (l:List (List PV)),below.belowEs n l=true→RelE κ esz b o l→RelE κ' esz b o l
 | [],_,_=>by simp [RelE]
 | e::r,hb,hr=>by
  simp only [below.belowEs,Bool.and_eq_true] at hb
  simp only [RelE] at *
  exact ⟨hr.1,RelM.mono h b o e hb.1 hr.2.1,RelE.mono h esz b (o+esz) r hb.2 hr.2.2⟩
end
mutual
theorem bk {n m:Nat} (h:n≤m):∀ p:PV,below n p=true→below m p=true
 | .k v,_=>rfl
 | .ptr id off,hb=>by simp only [below,decide_eq_true_eq] at *; omega
 | .pa id _ _ _,hb=>by simp only [below,decide_eq_true_eq] at *; omega
 | .pe cs off,hb=>by simp only [below] at *; exact br h cs hb
 | .sl t es,hb=>by simp only [below] at *; exact bp h es hb
 | .ow id _ es,hb=>by simp only [below,Bool.and_eq_true,decide_eq_true_eq] at *; exact ⟨by omega,bp h es hb.2⟩
 | .rs id _ _ _,hb=>by simp only [below,decide_eq_true_eq] at *; omega
 | .agg cs,hb=>by simp only [below] at *; exact br h cs hb
 | .tup cs,hb=>by simp only [below] at *; exact br h cs hb
 | .fn _ cap,hb=>by simp only [below] at *; exact br h cap hb
 | .yld id,hb=>by simp only [below,decide_eq_true_eq] at *; omega
 | .bm _ fs,hb=>by simp only [below] at *; exact br h fs hb
 | .map id,hb=>by simp only [below,decide_eq_true_eq] at *; omega
 | .iface _ v,hb=>by simp only [below] at *; exact bk h v hb
theorem br {n m:Nat} (h:n≤m):∀ l:List PV,below.belowAll n l=true→below.belowAll m l=true
 | [],_=>rfl
 | p::r,hb=>by simp only [below.belowAll,Bool.and_eq_true] at *; exact ⟨bk h p hb.1,br h r hb.2⟩
theorem bp {n m:Nat} (h:n≤m):∀ l:List (List PV),below.belowEs n l=true→below.belowEs m l=true
 | [],_=>rfl
 | e::r,hb=>by simp only [below.belowEs,Bool.and_eq_true] at *; exact ⟨br h e hb.1,bp h r hb.2⟩
end
theorem cE {n:Nat}:∀ (a b:List PV),below.belowAll n (a++b)=(below.belowAll n a && below.belowAll n b)
 | [],b=>by simp [below.belowAll]
 | p::r,b=>by simp [below.belowAll,cE r b,Bool.and_assoc]
theorem eN {n:Nat}:∀ (a b:List (List PV)),below.belowEs n (a++b)=(below.belowEs n a && below.belowEs n b)
 | [],b=>by simp [below.belowEs]
 | p::r,b=>by simp [below.belowEs,eN r b,Bool.and_assoc]
theorem bZ {n:Nat}:∀ (l:List (List PV)),below.belowAll n l.flatten=below.belowEs n l
 | []=>rfl
 | e::r=>by simp [below.belowEs,cE,bZ r]
theorem bR {n:Nat} {l:List PV} (h:below.belowAll n l=true) {p:PV} (hp:p∈l):below n p=true:=by
 induction l with
 | nil=>cases hp
 | cons x r ih =>
  simp only [below.belowAll,Bool.and_eq_true] at h
  cases hp with
  | head=>exact h.1
  | tail _ hp=>exact ih h.2 hp
theorem dg {n:Nat} {l:List PV} (h:∀ p∈l,below n p=true):below.belowAll n l=true:=by
 induction l with
 | nil=>rfl
 | cons x r ih=>simp only [below.belowAll,Bool.and_eq_true]; exact ⟨h x (by simp),ih fun p hp=>h p (by simp [hp])⟩
end Go.Ev

namespace Go.Ev
variable [CodeRel]
def own (κ:Kn) (σ:Sto) (i:Nat):Option Nat :=
 match σ[i]? with
 | some (.var _)=>some (κ.ρ i).1
 | some (.arr _ _ _)=>some (κ.ρ i).1
 | some (.mp _)=>some (κ.ρ i).1
 | some (.loop ..)=>some (κ.ρ i).1
 | some (.tok _ _)=>(κ.tok i).map (·.1)
 | some (.pt ..)=>some (κ.ρ i).1
 | some (.bld ..)=>some (κ.ρ i).1
 | some (.barr _ v _)=>if v=0 then none else some (κ.ρ i).1
 | _=>none
def RelEnts (κ:Kn):List (Value×PV)→List MapEntry→Prop
 | [],l=>l=[]
 | p::r,l=>∃ e l',l=e::l'∧e.key=p.1∧RelV κ p.2 e.val∧RelEnts κ r l'
def Born (l:List MapEntry) (clock:Nat):Prop:=(∀ x∈l,x.born<clock)∧(l.map (·.born)).Nodup
def ba (n:Nat):Ob→Bool
 | .var cs=>below.belowAll n cs
 | .tok _ _=>true
 | .arr _ _ es=>below.belowEs 0 es
 | .mp m=>m.all fun p=>below 0 p.2
 | .loop env ..=>env.all fun p=>below n p.2
 | .dead=>true
 | .pt _ _ es z=>below.belowEs 0 es && below.belowAll 0 z
 | .bld _ _ x j=>below n x && decide (j<n)
 | .barr ..=>true
def Et:Nat→LoopState
 | 0=>.ready
 | 1=>.busy
 | 2=>.done
 | _=>.exhausted
def sd:Option (Option Nat)→Option Code
 | none=>none
 | some none=>some .ret
 | some (some id)=>some (.exit id)
def I4 (κ:Kn) (env:Env) (ps:List Nat) (asg bd:IC) (st:Nat) (pend:Option (Option Nat)) (r:Loop):Prop :=
 r.params.toList=ps∧r.state=Et st∧r.pending=sd pend∧(∀ s v,bw env s=some v→RelV κ v (r.tmps.getD s undef)∧s<r.tmps.size)∧CodeRel.cd asg r.assign r.tmps.size∧CodeRel.cd bd r.body r.tmps.size∧∀ p∈ps,p<r.tmps.size
def obRel (κ:Kn) (w:World) (i:Nat):Ob→Prop
 | .var cs=>κ.gen i=1∧(κ.ρ i).2=0∧(∃ c T,w.heap[(κ.ρ i).1]? = some (.cells c T (0,0))∧RelL κ cs c.toList∧∀ v∈c.toList,v.oneCell'=true)∧∀ o,κ.M (κ.ρ i).1 o=none
 | .arr ver esz es=>κ.gen i=ver∧κ.esz i=esz∧(∃ c T,w.heap[(κ.ρ i).1]? = some (.cells c T (0,0))∧(∀ e∈es,e.length=esz)∧(∀ v∈c.toList,v.oneCell'=true) ∧
   (∃ pre post vs,c.toList=pre++vs++post∧pre.length=(κ.ρ i).2∧RelL κ es.flatten vs))∧∀ o,(κ.ρ i).2≤o→κ.M (κ.ρ i).1 o=none
 | .tok esz n=>κ.gen i=n∧κ.esz i=esz∧∀ b e f,κ.tok i=some (b,e,f)→(∃ c T,w.heap[b]? = some (.cells c T (0,0))∧e+f * esz≤c.size)∧∀ o,e≤o→κ.M b o=none
 | .mp m=>κ.gen i=1∧(∃ es clock,w.heap[(κ.ρ i).1]? = some (.map es clock)∧RelEnts κ m es.toList∧Born es.toList clock)
 | .loop env ps asg bd st pend=>κ.gen i=1∧∃ r,w.heap[(κ.ρ i).1]? = some (.loop r)∧I4 κ env ps asg bd st pend r
 | .dead=>κ.gen i=0
 | .pt ver esz es z=>κ.gen i=ver∧κ.esz i=esz∧(∃ c T,w.heap[(κ.ρ i).1]? = some (.cells c T (0,0))∧z.length=esz∧RelE κ esz (κ.ρ i).1 (κ.ρ i).2 es ∧
   ∃ pre post vs,c.toList=pre++vs++post∧pre.length=(κ.ρ i).2+es.length * esz∧RelL κ z vs∧∀ v∈vs,v.oneCell'=true)∧∀ o,(κ.ρ i).2+es.length * esz≤o→κ.M (κ.ρ i).1 o=none
 | .bld T used x _=>κ.gen i=1∧(κ.ρ i).2=0∧(∃ v,w.heap[(κ.ρ i).1]? = some (.cells #[if used then .pointer (some ⟨(κ.ρ i).1,0,none⟩) else .pointer none,v] T (0,0))∧RelV κ x v∧v.oneCell'=true)∧∀ o,κ.M (κ.ρ i).1 o=none
 | .barr T ver s=>κ.gen i=ver∧κ.esz i=1∧(ver=0→s.size=0)∧(ver≠0→(∃ c,w.heap[(κ.ρ i).1]? = some (.cells c T (0,0))∧(κ.ρ i).2=0∧(∀ v∈c.toList,v.oneCell'=true)∧∃ post,c.toList=(s.data.toList.map fun b=>Value.int .u8 b.toNat)++post)∧∀ o,κ.M (κ.ρ i).1 o=none)
structure INV (bars:List Nat) (κ:Kn) (σ:Sto) (w:World):Prop where
 obs:∀ (i:Nat) (ob:Ob),σ[i]? = some ob→obRel κ w i ob
 inj:∀ i j b,own κ σ i=some b→own κ σ j=some b→i=j
 mem:∀ b o v,κ.M b o=some v→w.cell? ⟨b,o,none⟩=some v
 cap:∀ b,0<κ.cap b→∃ c T fr,w.heap[b]? = some (.cells c T fr)∧κ.cap b≤c.size
 wf:∀ (i:Nat) (ob:Ob),σ[i]? = some ob→ba σ.length ob=true
 wfb:∀ n∈bars,n≤σ.length∧∀ (i:Nat) (ob:Ob),i<n→σ[i]? = some ob→ba n ob=true
structure Kept (n:Nat) (κ:Kn) (σ:Sto) (w:World) (κ':Kn) (σ':Sto) (w':World):Prop where
 ext:Ext n κ κ'
 size:w.heap.size≤w'.heap.size
 keep:∀ b,b<w.heap.size→(∀ i,own κ σ i≠some b)→w'.heap[b]? = w.heap[b]?
 own:∀ i b,own κ' σ' i=some b→(∃ j,own κ σ j=some b)∨w.heap.size≤b
 M:∀ b o v,κ'.M b o=some v→κ.M b o=some v∨(∃ j,Go.Ev.own κ σ j=some b)∨w.heap.size≤b
 os:w'.os=w.os
 output:w'.output=w.output
 tape:w'.tape=w.tape
theorem Kept.refl (n:Nat) (κ:Kn) (σ:Sto) (w:World):Kept n κ σ w κ σ w :=
 ⟨Ext.refl n κ,Nat.le_refl _,fun _ _ _=>rfl,fun i b h=>.inl ⟨i,h⟩,fun _ _ _ h=>.inl h,rfl,rfl,rfl⟩
theorem Kept.trans {n m:Nat} {κ κ' κ'':Kn} {σ σ' σ'':Sto} {w w' w'':World} (h:Kept n κ σ w κ' σ' w') (h':Kept m κ' σ' w' κ'' σ'' w'') (hnm:n≤m):Kept n κ σ w κ'' σ'' w'':=by
 refine ⟨h.ext.trans h'.ext hnm,Nat.le_trans h.size h'.size,fun b hb hno=>?_,fun i b hi=>?_,fun b o v hm=>?_,by rw [h'.os,h.os],by rw [h'.output,h.output],by rw [h'.tape,h.tape]⟩
 ·rw [h'.keep b (Nat.lt_of_lt_of_le hb h.size) (fun i hi=>?_),h.keep b hb hno]
  rcases h.own i b hi with ⟨j,hj⟩|hge
  ·exact hno j hj
  ·omega
 ·rcases h'.own i b hi with ⟨j,hj⟩|hge
  ·exact h.own j b hj
  ·exact .inr (Nat.le_trans h.size hge)
 ·rcases h'.M b o v hm with hm|⟨j,hj⟩|hge
  ·exact h.M b o v hm
  ·exact .inr (h.own j b hj)
  ·exact .inr (.inr (Nat.le_trans h.size hge))
theorem o8 {bars:List Nat} {κ:Kn} {σ:Sto} {w:World} (h:INV bars κ σ w) {i b:Nat} (hi:own κ σ i=some b):b<w.heap.size:=by
 have lt:∀ {b:Nat} {o:Obj},w.heap[b]? = some o→b<w.heap.size:=fun hb=>(Array.getElem?_eq_some_iff.1 hb).1
 unfold own at hi
 cases hs:σ[i]? with
 | none=>rw [hs] at hi; cases hi
 | some ob =>
  rw [hs] at hi
  have ho:=h.obs i ob hs
  cases ob with
  | var cs=>obtain ⟨_,_,⟨c,T,hc,_⟩,_⟩:=ho; cases hi; exact lt hc
  | arr v k es=>obtain ⟨_,_,⟨c,T,hc,_⟩,_⟩:=ho; cases hi; exact lt hc
  | mp m=>obtain ⟨_,es,cl,hc,_⟩:=ho; cases hi; exact lt hc
  | tok k n =>
   obtain ⟨_,_,ht⟩:=ho
   simp only [Option.map_eq_some_iff] at hi
   obtain ⟨⟨b',e,f⟩,hk,rfl⟩:=hi
   obtain ⟨⟨c,T,hc,_⟩,_⟩:=ht b' e f hk
   exact lt hc
  | loop=>obtain ⟨_,r,hc,_⟩:=ho; cases hi; exact lt hc
  | dead=>cases hi
  | pt=>obtain ⟨_,_,⟨c,T,hc,_⟩,_⟩:=ho; cases hi; exact lt hc
  | bld=>obtain ⟨_,_,⟨v,hc,_⟩,_⟩:=ho; cases hi; exact lt hc
  | barr T ver s =>
   obtain ⟨_,_,_,ht⟩:=ho
   simp only at hi
   split at hi
   ·cases hi
   ·rename_i hv
    obtain ⟨⟨c,hc,_⟩,_⟩:=ht hv
    cases hi; exact lt hc
def Kn.at (κ:Kn) (i b:Nat):Kn :=
 { κ with ρ:=fun j=>if j=i then (b,0) else κ.ρ j,gen:=fun j=>if j=i then 1 else κ.gen j,tok:=fun j=>if j=i then none else κ.tok j }
theorem Ext.at (κ:Kn) (i b:Nat):Ext i κ (κ.at i b):=by
 refine ⟨fun id hid _=>?_,fun id hid=>rfl,fun id hid=>?_,fun id hid _=>?_,fun _ _ _ h=>h,fun _=>Nat.le_refl _⟩ <;>
  simp [Kn.at,Nat.ne_of_lt hid]
theorem RelL.length {κ:Kn}:∀ {l:List PV} {x:List Value},RelL κ l x→l.length=x.length
 | [],x,h=>by simp only [RelL] at h; subst h; rfl
 | p::r,x,h=>by
  simp only [RelL] at h
  obtain ⟨v,l',rfl,_,hl⟩:=h
  simp [RelL.length hl]
theorem aW {w:World} {o:Obj} {b:Nat} (hb:b<w.heap.size):(w.heap.push o)[b]? = w.heap[b]?:=by
 rw [Array.getElem?_push]; simp [Nat.ne_of_lt hb]
theorem oc {w:World} {a:Addr} {v:Value} (h:w.cell? a=some v):a.block<w.heap.size:=by
 unfold World.cell? at h
 split at h
 ·rename_i c T fr hc; exact (Array.getElem?_eq_some_iff.1 hc).1
 ·cases h
theorem INV.M_fresh {bars:List Nat} {κ:Kn} {σ:Sto} {w:World} (h:INV bars κ σ w) {b:Nat} (hb:w.heap.size≤b) (o:Nat):κ.M b o=none:=by
 cases hm:κ.M b o with
 | none=>rfl
 | some v =>
  have:=oc (h.mem b o v hm)
  simp at this; omega
theorem RelEnts.mono {n:Nat} {κ κ':Kn} (h:Ext n κ κ'):∀ (m:List (Value×PV)) (l:List MapEntry),(m.all fun p=>below 0 p.2)=true→RelEnts κ m l→RelEnts κ' m l
 | [],l,_,hr=>by simpa [RelEnts] using hr
 | p::r,l,hb,hr=>by
  simp only [List.all_cons,Bool.and_eq_true] at hb
  simp only [RelEnts] at *
  obtain ⟨e,l',hl,hk,hv,hr⟩:=hr
  exact ⟨e,l',hl,hk,RelV.mono h _ _ (bk (Nat.zero_le _) _ hb.1) hv,RelEnts.mono h r l' hb.2 hr⟩
def ee (κ:Kn) (i:Nat):Ob→Option Nat
 | .var _=>some (κ.ρ i).1
 | .arr _ _ _=>some (κ.ρ i).1
 | .mp _=>some (κ.ρ i).1
 | .loop ..=>some (κ.ρ i).1
 | .tok _ _=>(κ.tok i).map (·.1)
 | .dead=>none
 | .pt ..=>some (κ.ρ i).1
 | .bld ..=>some (κ.ρ i).1
 | .barr _ v _=>if v=0 then none else some (κ.ρ i).1
theorem dx {κ:Kn} {σ:Sto} {i:Nat} {ob:Ob} (h:σ[i]? = some ob):own κ σ i=ee κ i ob:=by
 unfold own; rw [h]; cases ob<;>rfl
theorem vK {n:Nat}:∀ {env:Env} {s:Nat} {v:PV},(∀ a b,(a,b)∈env→below n b=true)→bw env s=some v→below n v=true
 | [],_,_,_,h=>by simp [bw] at h
 | (t,u)::r,s,v,hb,h=>by
  simp only [bw] at h
  split at h
  ·cases h; exact hb t u (by simp)
  ·exact vK (fun a b hm=>hb a b (by simp [hm])) h
theorem obRel.keep {κ κ':Kn} {w w':World} {i n:Nat} {ob:Ob} (he:Ext n κ κ') (hi:i<n) (hg:κ'.gen i=κ.gen i) (hb:ba n ob=true)
  (hk:∀ b,ee κ i ob=some b→w'.heap[b]? = w.heap[b]?∧∀ o,κ'.M b o=κ.M b o) (h:obRel κ w i ob):obRel κ' w' i ob:=by
 cases ob with
 | var cs =>
  obtain ⟨h1,h2,⟨c,T,hc,hr,h3⟩,h4⟩:=h
  obtain ⟨k1,k2⟩:=hk _ rfl
  refine ⟨by rw [hg]; exact h1,by rw [he.ρ i hi hg]; exact h2,⟨c,T,?_,RelL.mono he _ _ (by simpa [ba] using hb) hr,h3⟩,fun o=>?_⟩
  ·rw [he.ρ i hi hg,k1]; exact hc
  ·rw [he.ρ i hi hg,k2]; exact h4 o
 | arr ver k es =>
  obtain ⟨h1,h1',⟨c,T,hc,h2,h3,pre,post,vs,h5,h6,h7⟩,h4⟩:=h
  obtain ⟨k1,k2⟩:=hk _ rfl
  have hb0:below.belowAll n es.flatten=true:=by
   rw [bZ]; exact bp (Nat.zero_le _) _ (by simpa [ba] using hb)
  refine ⟨by rw [hg]; exact h1,by rw [he.esz i hi]; exact h1',⟨c,T,?_,h2,h3,pre,post,vs,h5,by rw [he.ρ i hi hg]; exact h6,RelL.mono he _ _ hb0 h7⟩,fun o ho=>?_⟩
  ·rw [he.ρ i hi hg,k1]; exact hc
  ·rw [he.ρ i hi hg] at ho ⊢; rw [k2]; exact h4 o ho
 | tok k m =>
  obtain ⟨h1,h1',h2⟩:=h
  refine ⟨by rw [hg]; exact h1,by rw [he.esz i hi]; exact h1',fun b e f hk'=>?_⟩
  rw [he.tok i hi hg] at hk'
  obtain ⟨k1,k2⟩:=hk b (by simp [ee,hk'])
  obtain ⟨⟨c,T,hc,hs⟩,hm⟩:=h2 b e f hk'
  exact ⟨⟨c,T,by rw [k1]; exact hc,hs⟩,fun o ho=>by rw [k2]; exact hm o ho⟩
 | mp m =>
  obtain ⟨h1,es,cl,hc,hr,hbo⟩:=h
  obtain ⟨k1,k2⟩:=hk _ rfl
  exact ⟨by rw [hg]; exact h1,es,cl,by rw [he.ρ i hi hg,k1]; exact hc,RelEnts.mono he m _ (by simpa [ba] using hb) hr,hbo⟩
 | loop env ps asg bd st pend =>
  obtain ⟨h1,r,hc,g1,g2,g3,g4,g5,g6⟩:=h
  obtain ⟨k1,k2⟩:=hk _ rfl
  refine ⟨by rw [hg]; exact h1,r,by rw [he.ρ i hi hg,k1]; exact hc,g1,g2,g3,fun s v hs=>⟨RelV.mono he _ _ (vK (by simpa [ba] using hb) hs) (g4 s v hs).1,(g4 s v hs).2⟩,g5,g6⟩
 | dead=>exact hg.trans h
 | pt ver k es z =>
  obtain ⟨h1,h1',⟨c,T,hc,h2,h3,pre,post,vs,h5,h6,h7,h8⟩,h4⟩:=h
  obtain ⟨k1,k2⟩:=hk _ rfl
  simp only [ba,Bool.and_eq_true] at hb
  refine ⟨by rw [hg]; exact h1,by rw [he.esz i hi]; exact h1',⟨c,T,?_,h2,?_,pre,post,vs,h5,by rw [he.ρ i hi hg]; exact h6,RelL.mono he _ _ (br (Nat.zero_le _) _ hb.2) h7,h8⟩,fun o ho=>?_⟩
  ·rw [he.ρ i hi hg,k1]; exact hc
  ·rw [he.ρ i hi hg]; exact RelE.mono he _ _ _ _ (bp (Nat.zero_le _) _ hb.1) h3
  ·rw [he.ρ i hi hg] at ho ⊢; rw [k2]; exact h4 o ho
 | bld T used x j =>
  obtain ⟨h1,h2,⟨v,hc,h3,h4⟩,h5⟩:=h
  obtain ⟨k1,k2⟩:=hk _ rfl
  simp only [ba,Bool.and_eq_true] at hb
  refine ⟨by rw [hg]; exact h1,by rw [he.ρ i hi hg]; exact h2,⟨v,?_,RelV.mono he _ _ hb.1 h3,h4⟩,fun o=>?_⟩
  ·rw [he.ρ i hi hg,k1]; exact hc
  ·rw [he.ρ i hi hg,k2]; exact h5 o
 | barr T ver s =>
  obtain ⟨h1,h1',h0,h⟩:=h
  refine ⟨by rw [hg]; exact h1,by rw [he.esz i hi]; exact h1',h0,fun hv=>?_⟩
  obtain ⟨⟨c,hc,h2,h3,h4⟩,h5⟩:=h hv
  obtain ⟨k1,k2⟩:=hk (κ.ρ i).1 (by simp [ee,hv])
  refine ⟨⟨c,?_,by rw [he.ρ i hi hg]; exact h2,h3,h4⟩,fun o=>?_⟩
  ·rw [he.ρ i hi hg,k1]; exact hc
  ·rw [he.ρ i hi hg,k2]; exact h5 o
theorem fp {n m:Nat} (h:n≤m) (ob:Ob) (hb:ba n ob=true):ba m ob=true:=by
 cases ob with
 | var cs=>exact br h cs hb
 | tok _ _=>rfl
 | arr _ _ es=>exact hb
 | mp l=>exact hb
 | loop env ps a b s p =>
  simp only [ba,List.all_eq_true] at *
  exact fun x hx=>bk h _ (hb x hx)
 | dead=>rfl
 | pt=>exact hb
 | bld T u x j =>
  simp only [ba,Bool.and_eq_true,decide_eq_true_eq] at hb ⊢
  exact ⟨bk h _ hb.1,Nat.lt_of_lt_of_le hb.2 h⟩
 | barr=>rfl
theorem INV.push_var {bars:List Nat} {κ:Kn} {σ:Sto} {w:World} (h:INV bars κ σ w) {cs:List PV} {c:Array Value} {T:TypeId} (hr:RelL κ cs c.toList) (h1:∀ v∈c.toList,v.oneCell'=true) (hb:below.belowAll σ.length cs=true) :
  INV bars (κ.at σ.length w.heap.size) (σ++[.var cs]) { w with heap:=w.heap.push (.cells c T) } ∧
   Kept σ.length κ σ w (κ.at σ.length w.heap.size) (σ++[.var cs]) { w with heap:=w.heap.push (.cells c T) }:=by
 have hext:=Ext.at κ σ.length w.heap.size
 have hgen:∀ i,i<σ.length→(κ.at σ.length w.heap.size).gen i=κ.gen i:=fun i hi=>by simp [Kn.at,Nat.ne_of_lt hi]
 have hget:∀ i ob,(σ++[Ob.var cs])[i]? = some ob→(i<σ.length∧σ[i]? = some ob)∨(i=σ.length∧ob=.var cs):=by
  intro i ob hi
  rcases Nat.lt_or_ge i σ.length with hlt|hge
  ·rw [List.getElem?_append_left hlt] at hi; exact .inl ⟨hlt,hi⟩
  ·rw [List.getElem?_append_right hge] at hi
   obtain hz|hz:i - σ.length=0∨0<i - σ.length:=by omega
   ·rw [hz] at hi; simp at hi; exact .inr ⟨by omega,hi.symm⟩
   ·rw [List.getElem?_eq_none (by simp; omega)] at hi; cases hi
 have hown:∀ i b,own (κ.at σ.length w.heap.size) (σ++[.var cs]) i=some b→(i<σ.length∧own κ σ i=some b)∨(i=σ.length∧b=w.heap.size):=by
  intro i b hi
  cases hs:(σ++[Ob.var cs])[i]? with
  | none=>unfold own at hi; rw [hs] at hi; cases hi
  | some ob =>
   rw [dx hs] at hi
   rcases hget i ob hs with ⟨hlt,hs'⟩|⟨rfl,rfl⟩
   ·refine .inl ⟨hlt,?_⟩
    rw [dx hs']
    cases ob<;>first|(simpa [ee,Kn.at,Nat.ne_of_lt hlt] using hi)|(simp [ee] at hi)
   ·simp [ee,Kn.at] at hi; exact .inr ⟨rfl,hi.symm⟩
 refine ⟨⟨fun i ob hi=>?_,fun i j b hi hj=>?_,fun b o v hm=>?_,fun b hc=>?_,fun i ob hi=>?_,fun n hn=>?_⟩,⟨hext,by simp,fun b hlt _=>aW hlt,fun i b hi=>?_,fun _ _ _ h=>.inl h,rfl,rfl,rfl⟩⟩
 ·rcases hget i ob hi with ⟨hlt,hs⟩|⟨rfl,rfl⟩
  ·refine obRel.keep hext hlt (hgen i hlt) (h.wf i ob hs) (fun b hb'=>⟨aW ?_,fun o=>rfl⟩) (h.obs i ob hs)
   exact o8 h (by rw [dx hs]; exact hb')
  ·refine ⟨by simp [Kn.at],by simp [Kn.at],⟨c,T,by simp [Kn.at],RelL.mono hext _ _ hb hr,h1⟩,fun o=>?_⟩
   simp only [Kn.at,if_true]
   exact h.M_fresh (Nat.le_refl _) o
 ·rcases hown i b hi with ⟨hlt,h2⟩|⟨hi1,hi2⟩<;>rcases hown j b hj with ⟨hlt',h3⟩|⟨hj1,hj2⟩
  ·exact h.inj i j b h2 h3
  ·have:=o8 h h2; omega
  ·have:=o8 h h3; omega
  ·omega
 ·have hlt:=oc (h.mem b o v hm)
  have:=h.mem b o v hm
  simp only [World.cell?,aW hlt] at this ⊢
  exact this
 ·obtain ⟨c',T',fr,hc',hsz⟩:=h.cap b hc
  exact ⟨c',T',fr,by rw [aW (Array.getElem?_eq_some_iff.1 hc').1]; exact hc',hsz⟩
 ·rcases hget i ob hi with ⟨hlt,hs⟩|⟨rfl,rfl⟩
  ·exact fp (by simp) ob (h.wf i ob hs)
  ·exact br (by simp) cs hb
 ·obtain ⟨hle,hw⟩:=h.wfb n hn
  refine ⟨by simp; omega,fun i ob hin hi=>?_⟩
  rcases hget i ob hi with ⟨hlt,hs⟩|⟨rfl,rfl⟩
  ·exact hw i ob hin hs
  ·omega
 ·rcases hown i b hi with ⟨hlt,h2⟩|⟨rfl,rfl⟩
  ·exact .inl ⟨i,h2⟩
  ·exact .inr (Nat.le_refl _)
theorem INV.one {bars:List Nat} {κ κ':Kn} {σ σ':Sto} {w w':World} (h:INV bars κ σ w) (i:Nat) (ob:Ob) (hi:i≤σ.length)
  (hlen:σ'.length=max σ.length (i+1)) (hget:σ'[i]? = some ob) (hoth:∀ j,j≠i→σ'[j]? = σ[j]?)
  (he:Ext σ.length κ κ') (hgen:∀ j,j<σ.length→j≠i→κ'.gen j=κ.gen j)
  (hsize:w.heap.size≤w'.heap.size) (hkeep:∀ b,b<w.heap.size→own κ σ i≠some b→w'.heap[b]? = w.heap[b]?)
  (hM:∀ b,b<w.heap.size→own κ σ i≠some b→∀ o,κ'.M b o=κ.M b o)
  (hob:obRel κ' w' i ob) (hblk:∀ b,ee κ' i ob=some b→own κ σ i=some b∨w.heap.size≤b)
  (hmem:∀ b o v,κ'.M b o=some v→w'.cell? ⟨b,o,none⟩=some v)
  (hcap:∀ b,0<κ'.cap b→∃ c T fr,w'.heap[b]? = some (.cells c T fr)∧κ'.cap b≤c.size)
  (hwf:ba σ'.length ob=true) (hwfb:∀ n∈bars,i<n→ba n ob=true)
  (hos:w'.os=w.os) (hout:w'.output=w.output) (htape:w'.tape=w.tape) :
  INV bars κ' σ' w'∧Kept σ.length κ σ w κ' σ' w':=by
 have hold:∀ j ob',j≠i→σ'[j]? = some ob'→j<σ.length∧σ[j]? = some ob':=by
  intro j ob' hj hs
  rw [hoth j hj] at hs
  exact ⟨(List.getElem?_eq_some_iff.1 hs).1,hs⟩
 have hownj:∀ j b,j≠i→own κ' σ' j=some b→own κ σ j=some b:=by
  intro j b hj hb
  cases hs:σ'[j]? with
  | none=>unfold own at hb; rw [hs] at hb; cases hb
  | some ob' =>
   obtain ⟨hlt,hs'⟩:=hold j ob' hj hs
   rw [dx hs] at hb
   rw [dx hs']
   have hg:=hgen j hlt hj
   cases ob'<;>first
    | (simp only [ee] at hb ⊢; rw [← hb,he.ρ j hlt hg])
    | (simp only [ee] at hb ⊢; rw [← hb,he.tok j hlt hg])
    | (simp [ee] at hb)
 have howni:∀ b,own κ' σ' i=some b→own κ σ i=some b∨w.heap.size≤b:=fun b hb=>hblk b (by rw [← dx hget]; exact hb)
 refine ⟨⟨fun j ob' hs=>?_,fun j k b hj hk=>?_,hmem,hcap,fun j ob' hs=>?_,fun n hn=>?_⟩,⟨he,hsize,fun b hb hno=>hkeep b hb (hno i),fun j b hb=>?_,fun b o v hm=>?_,hos,hout,htape⟩⟩
 ·by_cases hj:j=i
  ·subst hj
   rw [hget] at hs; cases hs; exact hob
  ·obtain ⟨hlt,hs'⟩:=hold j ob' hj hs
   refine obRel.keep he hlt (hgen j hlt hj) (h.wf j ob' hs') (fun b hb=>?_) (h.obs j ob' hs')
   have hbj:own κ σ j=some b:=by rw [dx hs']; exact hb
   have hno:own κ σ i≠some b:=fun hb'=>hj (h.inj j i b hbj hb')
   exact ⟨hkeep b (o8 h hbj) hno,hM b (o8 h hbj) hno⟩
 ·by_cases hj':j=i
  ·by_cases hk':k=i
   ·omega
   ·subst hj'
    have h2:=hownj k b hk' hk
    rcases howni b hj with h1|h1
    ·exact h.inj j k b h1 h2
    ·have:=o8 h h2; omega
  ·have h1:=hownj j b hj' hj
   by_cases hk':k=i
   ·subst hk'
    rcases howni b hk with h2|h2
    ·exact h.inj j k b h1 h2
    ·have:=o8 h h1; omega
   ·exact h.inj j k b h1 (hownj k b hk' hk)
 ·by_cases hj:j=i
  ·subst hj
   rw [hget] at hs; cases hs; exact hwf
  ·obtain ⟨hlt,hs'⟩:=hold j ob' hj hs
   exact fp (by omega) ob' (h.wf j ob' hs')
 ·obtain ⟨hle,hw⟩:=h.wfb n hn
  refine ⟨by omega,fun j ob' hjn hs=>?_⟩
  by_cases hj:j=i
  ·subst hj
   rw [hget] at hs; cases hs; exact hwfb n hn hjn
  ·obtain ⟨hlt,hs'⟩:=hold j ob' hj hs
   exact hw j ob' hjn hs'
 ·by_cases hj:j=i
  ·subst hj
   rcases howni b hb with h1|h1
   ·exact .inl ⟨j,h1⟩
   ·exact .inr h1
  ·exact .inl ⟨j,hownj j b hj hb⟩
 ·rcases Nat.lt_or_ge b w.heap.size with hlt|hge
  ·by_cases ho:own κ σ i=some b
   ·exact .inr (.inl ⟨i,ho⟩)
   ·exact .inl (by rw [← hM b hlt ho o]; exact hm)
  ·exact .inr (.inr hge)
theorem INV.more {bars:List Nat} {κ κ':Kn} {σ:Sto} {w w':World} (h:INV bars κ σ w)
  (he:Ext σ.length κ κ') (hgen:∀ j,j<σ.length→κ'.gen j=κ.gen j)
  (hsize:w.heap.size≤w'.heap.size) (hkeep:∀ b,b<w.heap.size→w'.heap[b]? = w.heap[b]?)
  (hM:∀ b,b<w.heap.size→∀ o,κ'.M b o=κ.M b o)
  (hmem:∀ b o v,κ'.M b o=some v→w'.cell? ⟨b,o,none⟩=some v)
  (hcap:∀ b,0<κ'.cap b→∃ c T fr,w'.heap[b]? = some (.cells c T fr)∧κ'.cap b≤c.size)
  (hos:w'.os=w.os) (hout:w'.output=w.output) (htape:w'.tape=w.tape) :
  INV bars κ' σ w'∧Kept σ.length κ σ w κ' σ w':=by
 have hown:∀ j,own κ' σ j=own κ σ j:=by
  intro j
  cases hs:σ[j]? with
  | none=>unfold own; rw [hs]
  | some ob =>
   have hlt:=(List.getElem?_eq_some_iff.1 hs).1
   rw [dx hs,dx hs]
   cases ob<;>simp only [ee]<;>first|rw [he.ρ j hlt (hgen j hlt)]|rw [he.tok j hlt (hgen j hlt)]
 refine ⟨⟨fun j ob hs=>?_,fun j k b hj hk=>h.inj j k b (by rw [← hown]; exact hj) (by rw [← hown]; exact hk),hmem,hcap,h.wf,h.wfb⟩,⟨he,hsize,fun b hb _=>hkeep b hb,fun j b hb=>.inl ⟨j,by rw [← hown]; exact hb⟩,fun b o v hm=>by
  rcases Nat.lt_or_ge b w.heap.size with hlt|hge
  ·exact .inl (by rw [← hM b hlt o]; exact hm)
  ·exact .inr (.inr hge),hos,hout,htape⟩⟩
 have hlt:=(List.getElem?_eq_some_iff.1 hs).1
 refine obRel.keep he hlt (hgen j hlt) (h.wf j ob hs) (fun b hb=>?_) (h.obs j ob hs)
 have hbj:own κ σ j=some b:=by rw [dx hs]; exact hb
 exact ⟨hkeep b (o8 h hbj),hM b (o8 h hbj)⟩
end Go.Ev

namespace Go.Ev
variable [CodeRel]
def eqK:Value→Value→Bool
 | .int j a,.int l b=>decide (j=l) && decide (a=b)
 | .bool a,.bool b=>decide (a=b)
 | .string a,.string b=>decide (a.data.toList=b.data.toList)
 | .pointer none,.pointer none=>true
 | .nilFunc,.nilFunc=>true
 | .nilIface,.nilIface=>true
 | .map none,.map none=>true
 | _,_=>false
theorem qh (m n:Int):(m == n)=decide (m=n):=by
 rw [Bool.eq_iff_iff]; simp
theorem Lu {x v:Value} (h:eqK x v=true):v=x:=by
 unfold eqK at h
 split at h<;>simp_all
 rename_i a b
 cases a; cases b; simp_all [Array.toList_inj]
mutual
def eqC:PV→Value→Bool
 | .k x,v=>eqK x v
 | .sl t es,v=>match v with
  | .slice none 0 0=>es.isEmpty
  | _=>false
 | .agg cs,v=>match v with
  | .agg vs=>tN cs vs.toList && vs.toList.all Value.oneCell'
  | _=>false
 | .tup cs,v=>match v with
  | .tuple vs=>tN cs vs.toList
  | _=>false
 | .fn f cap,v=>match f,cap,v with
  | .func f,[],.func (.func g) a b=>f == g && a.isEmpty && b.isEmpty
  | _,_,_=>false
 | _,_=>false
def tN:List PV→List Value→Bool
 | [],l=>l.isEmpty
 | p::r,l=>match l with
  | v::l=>eqC p v && tN r l
  | []=>false
end
mutual
theorem tZ (κ:Kn) (n:Nat):∀ (p:PV) (v:Value),eqC p v=true→RelV κ p v∧below n p=true
 | .k x,v,h=>⟨Lu h,rfl⟩
 | .ptr _ _,v,h=>by simp [eqC] at h
 | .pa _ _ _ _,v,h=>by simp [eqC] at h
 | .pe _ _,v,h=>by simp [eqC] at h
 | .ow _ _ _,v,h=>by simp [eqC] at h
 | .rs _ _ _ _,v,h=>by simp [eqC] at h
 | .map _,v,h=>by simp [eqC] at h
 | .iface _ _,v,h=>by simp [eqC] at h
 | .sl t es,v,h=>by
  simp only [eqC] at h
  split at h
  ·simp at h; subst h
   exact ⟨⟨none,0,0,by simp,by simp,by simp,by simp⟩,rfl⟩
  ·cases h
 | .agg cs,v,h=>by
  simp only [eqC] at h
  split at h
  ·rename_i vs
   simp only [Bool.and_eq_true,List.all_eq_true] at h
   obtain ⟨h1,h2⟩:=gZ κ n cs vs.toList h.1
   exact ⟨⟨vs,rfl,h1,h.2⟩,h2⟩
  ·cases h
 | .tup cs,v,h=>by
  simp only [eqC] at h
  split at h
  ·rename_i vs
   obtain ⟨h1,h2⟩:=gZ κ n cs vs.toList h
   exact ⟨⟨vs,rfl,h1⟩,h2⟩
  ·cases h
 | .fn f cap,v,h=>by
  simp only [eqC] at h
  split at h
  ·simp at h
   obtain ⟨⟨rfl,rfl⟩,rfl⟩:=h
   exact ⟨⟨#[],rfl,rfl⟩,rfl⟩
  ·cases h
theorem gZ (κ:Kn) (n:Nat):∀ (p:List PV) (v:List Value),tN p v=true→RelL κ p v∧below.belowAll n p=true
 | [],l,h=>by
  simp [tN] at h; subst h
  exact ⟨rfl,rfl⟩
 | p::r,l,h=>by
  simp only [tN] at h
  split at h
  ·rename_i v l
   simp only [Bool.and_eq_true] at h
   obtain ⟨h1,h2⟩:=tZ κ n p v h.1
   obtain ⟨h3,h4⟩:=gZ κ n r l h.2
   exact ⟨⟨v,l,rfl,h1,h3⟩,by simp [below.belowAll,h2,h4]⟩
  ·cases h
end
def aJ:Opd→Operand→Bool
 | .t n,.tmp m=>n == m
 | .c p,.const v=>eqC p v
 | .c (.fn (.func f) []),.func g=>f == g
 | _,_=>false
structure ENV (κ:Kn) (n:Nat) (env:Env) (tmps:Array Value):Prop where
 rel:∀ s v,bw env s=some v→RelV κ v (tmps.getD s undef)
 wf:∀ s v,bw env s=some v→below n v=true
 lt:∀ s v,bw env s=some v→s<tmps.size
theorem aA {κ:Kn} {n:Nat} {env:Env} {a:Act} (h:ENV κ n env a.tmps) {x:Opd} {y:Operand} (hc:aJ x y=true) {v:PV} (he:ev env x=some v):RelV κ v (a.eval y)∧below n v=true:=by
 cases x with
 | t s =>
  cases y<;>simp [aJ] at hc
  subst hc
  simp only [ev] at he
  exact ⟨h.rel s v he,h.wf s v he⟩
 | c p =>
  simp only [ev,Option.some.injEq] at he
  subst he
  cases y with
  | tmp t=>simp [aJ] at hc
  | const u=>exact tZ κ n p u (by cases p<;>simpa [aJ] using hc)
  | global g=>simp [aJ] at hc
  | func g =>
   cases p<;>simp [aJ] at hc
   rename_i f cap
   cases f<;>cases cap<;>simp [aJ] at hc
   subst hc
   exact ⟨⟨#[],rfl,rfl⟩,rfl⟩
theorem iK (κ:Kn):RelV κ (.tup []) undef:=⟨#[],rfl,rfl⟩
def SE (κ:Kn) (σ:Sto) (w:World) (res:Result Next) (f:FuncId) (xs:Array Value):Prop :=
 (f<YB∧res=.ok (.enter f xs) w)∨∃ l b,f=YB+l∧l<σ.length∧(κ.gen l=1→b=(κ.ρ l).1) ∧
  ∀ r:Loop,w.heap[b]? = some (.loop r)→xs.size=r.params.size→res=.ok (.round b r.fn ((r.params.zip xs).foldl (fun t (p,v)=>t.setIfInBounds p v) r.tmps) r.assign r.body) w
def OpOK (bars:List Nat) (κ:Kn) (σ:Sto) (w:World) (res:Result Next):OpR→Prop
 | .val v σ'=>∃ κ' w' x,(res=.ok (.value x) w'∨(res=.ok .skip w'∧x=undef))∧RelV κ' v x∧below σ'.length v=true∧INV bars κ' σ' w'∧Kept σ.length κ σ w κ' σ' w'∧σ.length≤σ'.length
 | .call f args σ'=>σ'=σ∧∃ xs,SE κ σ w res f xs∧RelL κ args xs.toList∧below.belowAll σ.length args=true
 | .pan v σ'=>σ'=σ∧∃ x,res=.halt (.panic x) w∧RelV κ v x∧below σ.length v=true
 | .dfr f args σ'=>σ'=σ∧∃ xs,res=.ok (.defer { target:=.fn (.func f) #[],args:=xs }) w∧RelL κ args xs.toList∧below.belowAll σ.length args=true
 | .rcv σ'=>σ'=σ∧res=.ok .recover w
theorem aL {bars:List Nat} {κ:Kn} {σ:Sto} {w:World} {res:Result Next} {v:PV} {x:Value} (hi:INV bars κ σ w) (hr:res=.ok (.value x) w) (hv:RelV κ v x) (hb:below σ.length v=true):OpOK bars κ σ w res (.val v σ) :=
 ⟨κ,w,x,.inl hr,hv,hb,hi,Kept.refl _ _ _ _,Nat.le_refl _⟩
def xD (P:Program) (t:TypeId) (n:Nat):Bool:=match P.info? t with|some i=>i.size == n|none=>false
def wt (P:Program) (t:TypeId) (b:Bool):Bool:=match P.underlying t with
 | some (.struct _)|some (.array _ _)=>b
 | some _=>!b
 | none=>false
section
variable {P:Program} {bars:List Nat} {κ:Kn} {σ:Sto} {w:World} {env:Env} {a:Act} {o:Oper} {r:OpR}
theorem DF (hi:INV bars κ σ w) (he:ENV κ σ.length env a.tmps) {x:Opd} {y:Operand} (hc:aJ x y=true) (ho:o.op=.move y∨o.op=.assign y) (hr:opE bars env σ (.mov x)=some r):OpOK bars κ σ w ((execOp a.eval o).run P w) r:=by
 simp only [opE,Option.bind_eq_some_iff,Option.some.injEq] at hr
 obtain ⟨v,hv,rfl⟩:=hr
 obtain ⟨h1,h2⟩:=aA he hc hv
 refine aL hi ?_ h1 h2
 rcases ho with ho|ho<;>simp [execOp,ho]
theorem HA (hi:INV bars κ σ w) (he:ENV κ σ.length env a.tmps) {c x y:Opd} {c' x' y':Operand} (hc:aJ c c'=true) (hx:aJ x x'=true) (hy:aJ y y'=true) (ho:o.op=.pick c' x' y') (hr:opE bars env σ (.pick c x y)=some r):OpOK bars κ σ w ((execOp a.eval o).run P w) r:=by
 simp only [opE] at hr
 split at hr
 ·rename_i hcv
  simp only [Option.bind_eq_some_iff,Option.some.injEq] at hr
  obtain ⟨v,hv,rfl⟩:=hr
  have hb:=(aA he hc hcv).1
  simp only [RelV] at hb
  obtain ⟨h1,h2⟩:=aA he hx hv
  exact aL hi (by simp [execOp,ho,hb,asBool]) h1 h2
 ·rename_i hcv
  simp only [Option.bind_eq_some_iff,Option.some.injEq] at hr
  obtain ⟨v,hv,rfl⟩:=hr
  have hb:=(aA he hc hcv).1
  simp only [RelV] at hb
  obtain ⟨h1,h2⟩:=aA he hy hv
  exact aL hi (by simp [execOp,ho,hb,asBool]) h1 h2
 ·cases hr
theorem JQ (hi:INV bars κ σ w) (he:ENV κ σ.length env a.tmps) {x:Opd} {y:Operand} {t:TypeId} (hc:aJ x y=true) (ho:o.op=.unOp .not t y) (hr:opE bars env σ (.not x)=some r):OpOK bars κ σ w ((execOp a.eval o).run P w) r:=by
 simp only [opE,Option.bind_eq_some_iff,Option.some.injEq] at hr
 obtain ⟨v,hv,u,hu,rfl⟩:=hr
 obtain ⟨h1,h2⟩:=aA he hc hv
 unfold unE at hu
 split at hu
 ·cases hu
  simp only [RelV] at h1
  exact aL hi (by simp [execOp,ho,h1,Op.unary]) rfl rfl
 ·cases hu
theorem JR (hi:INV bars κ σ w) (he:ENV κ σ.length env a.tmps) {x:Opd} {y:Operand} {t:TypeId} (hc:aJ x y=true) (ho:o.op=.unOp .neg t y) (hr:opE bars env σ (.neg x)=some r):OpOK bars κ σ w ((execOp a.eval o).run P w) r:=by
 simp only [opE] at hr
 split at hr
 ·rename_i j n hv
  cases hr
  obtain ⟨h1,h2⟩:=aA he hc hv
  simp only [RelV] at h1
  exact aL hi (x:=.int j (j.wrap (-n))) (by simp [execOp,ho,h1,Op.unary,Op.intArith]) rfl rfl
 ·cases hr
theorem JS (hi:INV bars κ σ w) (he:ENV κ σ.length env a.tmps) {op:BinOp} {x y:Opd} {x' y':Operand} {t t':TypeId} (hx:aJ x x'=true) (hy:aJ y y'=true) (ho:o.op=.binOp op t x' y' t') (hr:opE bars env σ (.bin op x y)=some r):OpOK bars κ σ w ((execOp a.eval o).run P w) r:=by
 simp only [opE,Option.bind_eq_some_iff,Option.some.injEq] at hr
 obtain ⟨u,hu,v,hv,z,hz,rfl⟩:=hr
 obtain ⟨h1,-⟩:=aA he hx hu
 obtain ⟨h2,-⟩:=aA he hy hv
 unfold vb at hz
 split at hz
 ·rename_i j m l n
  simp only [RelV] at h1 h2
  have hg:∀ w,(eqGuard op t x' y' (.int j m) (.int l n)).run P w=.ok () w:=fun w=>by
   unfold eqGuard; split<;>simp
  by_cases hjl:j=l
  ·subst hjl
   rw [if_pos rfl] at hz
   cases op<;>simp only [] at hz<;>(try split at hz)<;>first
    | (cases hz; done)
    | (obtain rfl:=Option.some.inj hz; refine aL hi ?_ rfl rfl; simp [execOp,ho,h1,h2,hg,binOp,Op.intArith,Op.intCmp,Op.intBits,bne,qh]; done)
    | (rename_i hb; obtain rfl:=Option.some.inj hz; refine aL hi ?_ rfl rfl; simp [execOp,ho,h1,h2,hg,binOp,Op.intDiv,Op.shift,hb]; done)
  ·rw [if_neg hjl] at hz
   cases op<;>simp only [] at hz<;>(try split at hz)<;>first
    | (cases hz; done)
    | (rename_i hb; obtain rfl:=Option.some.inj hz; refine aL hi ?_ rfl rfl; simp [execOp,ho,h1,h2,hg,binOp,Op.shift,hb]; done)
 ·rename_i m n
  simp only [RelV] at h1 h2
  have hg:∀ w,(eqGuard op t x' y' (.string m) (.string n)).run P w=.ok () w:=fun w=>by
   unfold eqGuard; split<;>simp
  split at hz
  ·cases hz; refine aL hi ?_ rfl rfl; simp [execOp,ho,h1,h2,hg,binOp,Op.stringOp]
  ·cases hz; refine aL hi ?_ rfl rfl; simp [execOp,ho,h1,h2,hg,binOp,Op.stringOp]
  ·split at hz
   ·rename_i hlim
    cases hz
    refine aL hi ?_ rfl rfl
    have hn:¬ (((m.size+n.size:Nat):Int) > IntKind.i64.max):=by
     unfold LIM at hlim; simp [IntKind.max,IntKind.bits,IntKind.signed]; omega
    simp only [Int.natCast_add,gt_iff_lt] at hn
    simp [execOp,ho,h1,h2,hg,binOp,Op.stringOp,hn]
    unfold LIM at hlim; omega
   ·cases hz
  ·cases hz
 ·cases hz
theorem HC (hi:INV bars κ σ w) (he:ENV κ σ.length env a.tmps) {x:Opd} {y:Operand} {i:Nat} (hc:aJ x y=true) (ho:o.op=.extract y i) (hr:opE bars env σ (.extr i x)=some r):OpOK bars κ σ w ((execOp a.eval o).run P w) r:=by
 simp only [opE] at hr
 split at hr
 ·rename_i vs hv
  simp only [Option.bind_eq_some_iff,Option.some.injEq] at hr
  obtain ⟨v,hvi,rfl⟩:=hr
  obtain ⟨h1,h2⟩:=aA he hc hv
  simp only [RelV] at h1
  obtain ⟨us,hu,hl⟩:=h1
  have key:∀ (l:List PV) (x:List Value) (i:Nat) (v:PV),RelL κ l x→l[i]? = some v→∃ u,x[i]? = some u∧RelV κ v u:=by
   intro l
   induction l with
   | nil=>intro x i v _ h; simp at h
   | cons p r ih =>
    intro x i v hr h
    simp only [RelL] at hr
    obtain ⟨u,l',rfl,h3,h4⟩:=hr
    cases i with
    | zero=>simp at h; subst h; exact ⟨u,by simp,h3⟩
    | succ i=>simp at h ⊢; exact ih l' i v h4 h
  obtain ⟨u,hu1,hu2⟩:=key vs us.toList i v hl hvi
  have hu3:us[i]? = some u:=by rw [← Array.getElem?_toList]; exact hu1
  refine aL hi (by simp [execOp,ho,hu,Instr.extract,hu3]) hu2 ?_
  simp only [below] at h2
  exact bR h2 (List.mem_of_getElem? hvi)
 ·cases hr
end
end Go.Ev

namespace Go.Ev
variable [CodeRel]
theorem RelL.get {κ:Kn}:∀ {l:List PV} {x:List Value} {i:Nat} {v:PV},RelL κ l x→l[i]? = some v→∃ u,x[i]? = some u∧RelV κ v u
 | [],x,i,v,_,h=>by simp at h
 | p::r,x,i,v,hr,h=>by
  simp only [RelL] at hr
  obtain ⟨u,l',rfl,h3,h4⟩:=hr
  cases i with
  | zero=>simp at h; subst h; exact ⟨u,by simp,h3⟩
  | succ i=>simp at h ⊢; exact RelL.get h4 h
theorem RelL.drop {κ:Kn}:∀ {l:List PV} {x:List Value} (n:Nat),RelL κ l x→RelL κ (l.drop n) (x.drop n)
 | l,x,0,h=>by simpa using h
 | [],x,n+1,h=>by simp only [RelL] at h; subst h; simp [RelL]
 | p::r,x,n+1,h=>by
  simp only [RelL] at h
  obtain ⟨u,l',rfl,_,h4⟩:=h
  simpa using RelL.drop n h4
theorem RelL.take {κ:Kn}:∀ {l:List PV} {x:List Value} (n:Nat),RelL κ l x→RelL κ (l.take n) (x.take n)
 | l,x,0,h=>by simp [RelL]
 | [],x,n+1,h=>by simp only [RelL] at h; subst h; simp [RelL]
 | p::r,x,n+1,h=>by
  simp only [RelL] at h
  obtain ⟨u,l',rfl,h3,h4⟩:=h
  simp only [List.take_succ_cons,RelL]
  exact ⟨u,l'.take n,rfl,h3,RelL.take n h4⟩
theorem RelL.append {κ:Kn}:∀ {l m:List PV} {x y:List Value},RelL κ l x→RelL κ m y→RelL κ (l++m) (x++y)
 | [],m,x,y,h,h'=>by simp only [RelL] at h; subst h; simpa using h'
 | p::r,m,x,y,h,h'=>by
  simp only [RelL] at h
  obtain ⟨u,l',rfl,h3,h4⟩:=h
  simp only [List.cons_append,RelL]
  exact ⟨u,l'++y,rfl,h3,RelL.append h4 h'⟩
theorem RelV.cells {κ:Kn} {p:PV} {x:Value} (h:RelV κ p x) (ho:okc p=true):RelL κ (cells p) x.cells.toList∧(∀ v∈x.cells.toList,v.oneCell'=true):=by
 have one:∀ {v:Value},v.oneCell'=true→RelV κ p v→RelL κ [p] v.cells.toList∧(∀ u∈v.cells.toList,u.oneCell'=true):=by
  intro v hv hr
  have:v.cells=#[v]:=by cases v<;>simp [Value.cells,Value.oneCell'] at hv ⊢
  rw [this]
  exact ⟨⟨v,[],rfl,hr,rfl⟩,by simpa using hv⟩
 cases p with
 | k v =>
  simp only [RelV] at h; subst h
  refine one ?_ rfl
  cases x<;>simp_all [okc,Value.oneCell']
 | ptr id off=>obtain ⟨q,rfl,h1⟩:=h; exact one rfl ⟨q,rfl,h1⟩
 | pa id ver i off=>obtain ⟨h0,q,rfl,h1⟩:=h; exact one rfl ⟨h0,q,rfl,h1⟩
 | pe cs off=>obtain ⟨b,o,rfl,hm⟩:=h; exact one rfl ⟨b,o,rfl,hm⟩
 | sl t es=>obtain ⟨a,cap,esz,rfl,h1⟩:=h; exact one rfl ⟨a,cap,esz,rfl,h1⟩
 | ow id n es=>obtain ⟨h0,a,cap,esz,rfl,h1⟩:=h; exact one rfl ⟨h0,a,cap,esz,rfl,h1⟩
 | rs id ver off len=>obtain ⟨h0,a,cap,rfl,h1⟩:=h; exact one rfl ⟨h0,a,cap,rfl,h1⟩
 | agg cs=>obtain ⟨vs,rfl,h1,h2⟩:=h; exact ⟨h1,h2⟩
 | tup cs=>simp [okc] at ho
 | fn f cap=>obtain ⟨vs,rfl,h1⟩:=h; exact one rfl ⟨vs,rfl,h1⟩
 | map id=>obtain ⟨q,rfl,h1⟩:=h; exact one rfl ⟨q,rfl,h1⟩
 | yld id=>obtain ⟨q,rfl,h1⟩:=h; exact one rfl ⟨q,rfl,h1⟩
 | bm f fs=>obtain ⟨q,rfl,h1⟩:=h; exact one rfl ⟨q,rfl,h1⟩
 | iface t v=>obtain ⟨y,rfl,h1⟩:=h; exact one rfl ⟨y,rfl,h1⟩
theorem RelM.take {κ:Kn} {b:Nat}:∀ {l:List PV} {o:Nat} (n:Nat),RelM κ b o l→RelM κ b o (l.take n)
 | l,o,0,h=>by simp [RelM]
 | [],o,n+1,h=>by simp [RelM]
 | p::r,o,n+1,h=>by
  simp only [RelM,List.take_succ_cons] at *
  exact ⟨h.1,RelM.take n h.2⟩
theorem RelM.drop {κ:Kn} {b:Nat}:∀ {l:List PV} {o:Nat} (n:Nat),RelM κ b o l→RelM κ b (o+n) (l.drop n)
 | l,o,0,h=>by simpa using h
 | [],o,n+1,h=>by simp [RelM]
 | p::r,o,n+1,h=>by
  simp only [RelM] at h
  have:=RelM.drop n h.2
  simpa [Nat.add_assoc,Nat.add_comm 1 n] using this
theorem RelM.list {κ:Kn} {b:Nat}:∀ {l:List PV} {o:Nat},RelM κ b o l→∃ vs:List Value,RelL κ l vs∧(∀ v∈vs,v.oneCell'=true)∧∀ j v,vs[j]? = some v→κ.M b (o+j)=some v
 | [],o,_=>⟨[],rfl,by simp,by simp⟩
 | p::r,o,h=>by
  simp only [RelM] at h
  obtain ⟨⟨v,hm,h1,hv⟩,hr⟩:=h
  obtain ⟨vs,h2,h3,h4⟩:=RelM.list hr
  refine ⟨v::vs,⟨v,vs,rfl,hv,h2⟩,by simpa [h1] using h3,fun j u hj=>?_⟩
  cases j with
  | zero=>simp at hj; subst hj; exact hm
  | succ j=>simp at hj; have:=h4 j u hj; rwa [show o+(j+1)=o+1+j by omega]
structure Found (κ:Kn) (w:World) (a:Addr) (cs:List PV) (vs:List Value):Prop where
 rel:RelL κ cs vs
 one:∀ v∈vs,v.oneCell'=true
 at_:∀ j v,vs[j]? = some v→w.cell? (a.add j)=some v
 spot:a.spot=none
theorem dl (b o j:Nat):(⟨b,o,none⟩:Addr).add j=⟨b,o+j,none⟩:=by unfold Addr.add; split<;>simp_all
theorem bU {w:World} {b:Nat} {c:Array Value} {T:TypeId} {fr:Nat×Nat} (h:w.heap[b]? = some (.cells c T fr)) (o:Nat):w.cell? ⟨b,o,none⟩=c[o]?:=by
 simp [World.cell?,h]
theorem FL {P:Program} {κ:Kn} {w:World} {a:Addr} {cs:List PV} {vs:List Value} (hf:Found κ w a cs vs) {n:Option Nat} {v:PV} {t:TypeId} {i:TypeInfo} (hm:mkv n cs=some v)
  (hi:P.info? t=some i) (hs:i.size=n.getD 1) (ha:wt P t n.isSome=true):∃ x,(loadVar t a).run P w=.ok x w∧RelV κ v x:=by
 have hl:=hf.rel.length
 have hc:(loadCells a cs.length).run P w=.ok vs.toArray w:=by rw [hl]; exact run_loadCells_list w a vs hf.at_
 unfold wt at ha
 cases hu:P.underlying t with
 | none=>rw [hu] at ha; cases ha
 | some d =>
  rw [hu] at ha
  cases n with
  | none =>
   simp only [mkv] at hm
   split at hm
   ·rename_i p
    cases hm
    obtain ⟨u,l',hx,h3,h4⟩:=hf.rel
    simp only [RelL] at h4; subst h4; subst hx
    have hz:=hf.at_ 0 u rfl
    have hz':w.cell? a=some u:=by simpa [Addr.add] using hz
    refine ⟨u,?_,h3⟩
    cases d<;>simp at ha<;>simp [loadVar,isAgg,underlying,hu,hz']
   ·cases hm
  | some m =>
   simp only [mkv] at hm
   split at hm
   ·rename_i hm'
    cases hm
    refine ⟨.agg vs.toArray,?_,⟨vs.toArray,rfl,by simpa using hf.rel,by simpa using hf.one⟩⟩
    have hsz:(sizeOf t).run P w=.ok cs.length w:=by simp [sizeOf,typeInfo,hi,hs,hm']
    cases d<;>simp at ha<;>simp [loadVar,isAgg,underlying,hu,hsz,hc]
   ·cases hm
theorem oO {cs:List PV} {off n:Nat} {r:List PV} (h:tX cs off n=some r):off+n≤cs.length∧r=(cs.drop off).take n:=by
 unfold tX at h
 split at h
 ·cases h; exact ⟨by assumption,rfl⟩
 ·cases h
theorem yZ {bars:List Nat} {κ:Kn} {σ:Sto} {w:World} (h:INV bars κ σ w) {p:PV} {x:Value} (hp:RelV κ p x) {n:Option Nat} {v:PV} (hl:qg σ n p=some v) :
  ∃ a cs vs,x=.pointer (some a)∧Found κ w a cs vs∧cs.length=n.getD 1∧mkv n cs=some v:=by
 unfold qg at hl
 split at hl
 ·rename_i id off
  split at hl
  ·rename_i cs hs
   simp only [Option.bind_eq_some_iff] at hl
   obtain ⟨r,hr,hm⟩:=hl
   obtain ⟨hle,rfl⟩:=oO hr
   obtain ⟨hg,h0,⟨c,T,hc,hrel,h1⟩,-⟩:=h.obs id _ hs
   obtain ⟨q,rfl,-,hq⟩:=hp
   have hq:=hq hg
   subst hq
   refine ⟨_,_,(c.toList.drop off).take (n.getD 1),rfl,⟨RelL.take _ (RelL.drop off hrel),fun v hv=>h1 v (List.mem_of_mem_drop (List.mem_of_mem_take hv)),fun j v hj=>?_,rfl⟩,by simp; omega,hm⟩
   rw [dl,bU hc,h0]
   rw [List.getElem?_take] at hj
   split at hj
   ·rw [List.getElem?_drop] at hj
    rw [← Array.getElem?_toList]; simpa using hj
   ·cases hj
  ·cases hl
 ·rename_i id ver i off
  split at hl
  ·rename_i vv kk es hs
   split at hl
   ·rename_i hver
    subst hver
    simp only [Option.bind_eq_some_iff] at hl
    obtain ⟨e,hei,r,hr,hm⟩:=hl
    obtain ⟨hle,rfl⟩:=oO hr
    obtain ⟨hg,rfl,⟨c,T,hc,hes,h1,pre,post,us,hcu,hpre,hrel⟩,-⟩:=h.obs id _ hs
    obtain ⟨-,q,rfl,hq⟩:=hp
    have hq:=hq hg
    subst hq
    have hel:e.length=κ.esz id:=hes e (List.mem_of_getElem? hei)
    have hdrop:∀ (l:List (List PV)) (i:Nat) (e:List PV) (k:Nat),(∀ e∈l,e.length=k)→l[i]? = some e→∃ rest,l.flatten.drop (i * k)=e++rest:=by
     intro l
     induction l with
     | nil=>intro i e k _ h; simp at h
     | cons x r ih =>
      intro i e k hk h
      cases i with
      | zero=>simp at h; subst h; exact ⟨r.flatten,by simp⟩
      | succ i =>
       simp at h
       obtain ⟨rest,hr⟩:=ih i e k (fun e he=>hk e (by simp [he])) h
       refine ⟨rest,?_⟩
       have hx:=hk x (by simp)
       rw [List.flatten_cons,show (i+1) * k=x.length+i * k by rw [hx,Nat.succ_mul]; omega,List.drop_append]
       rw [List.drop_eq_nil_of_le (Nat.le_add_right _ _)]
       simpa using hr
    obtain ⟨rest,hrest⟩:=hdrop es i e (κ.esz id) hes hei
    have h2:=RelL.take (n.getD 1) (RelL.drop off (RelL.drop (i * κ.esz id) hrel))
    rw [hrest] at h2
    have h3:((e++rest).drop off).take (n.getD 1)=(e.drop off).take (n.getD 1):=by
     rw [List.drop_append_of_le_length (by omega),List.take_append_of_le_length (by simp; omega)]
    rw [h3] at h2
    refine ⟨_,_,_,rfl,⟨h2,fun v hv=>h1 v ?_,fun j v hj=>?_,rfl⟩,by simp; omega,hm⟩
    ·rw [hcu]
     have:=List.mem_of_mem_drop (List.mem_of_mem_drop (List.mem_of_mem_take hv))
     simp [this]
    ·rw [dl,bU hc]
     rw [List.getElem?_take] at hj
     split at hj
     ·rw [List.getElem?_drop,List.getElem?_drop] at hj
      rw [← Array.getElem?_toList,hcu,List.append_assoc,List.getElem?_append_right (by omega),List.getElem?_append_left]
      ·rw [← hj]; congr 1; omega
      ·have:=(List.getElem?_eq_some_iff.1 hj).1; omega
     ·cases hj
   ·cases hl
  ·cases hl
 ·rename_i cs off
  simp only [Option.bind_eq_some_iff] at hl
  obtain ⟨r,hr,hm⟩:=hl
  obtain ⟨hle,rfl⟩:=oO hr
  obtain ⟨b,o,rfl,hM⟩:=hp
  have hM':=RelM.take (n.getD 1) (RelM.drop off hM)
  obtain ⟨vs,h2,h3,h4⟩:=RelM.list hM'
  refine ⟨_,_,vs,rfl,⟨h2,h3,fun j v hj=>?_,rfl⟩,by simp; omega,hm⟩
  rw [dl]
  exact h.mem _ _ _ (h4 j v hj)
 ·cases hl
section
variable {P:Program} {bars:List Nat} {κ:Kn} {σ:Sto} {w:World} {env:Env} {a:Act} {o:Oper} {r:OpR}
theorem y0 {bars:List Nat} (h:INV bars κ σ w) {n:Option Nat} {p v:PV} (hb:below σ.length p=true) (hl:qg σ n p=some v):below σ.length v=true:=by
 have mk:∀ {n:Option Nat} {cs:List PV} {v:PV},below.belowAll σ.length cs=true→mkv n cs=some v→below σ.length v=true:=by
  intro n cs v hb hm
  cases n with
  | none =>
   simp only [mkv] at hm
   split at hm
   ·cases hm; simpa [below.belowAll] using hb
   ·cases hm
  | some m =>
   simp only [mkv] at hm
   split at hm
   ·cases hm; exact hb
   ·cases hm
 have tk:∀ {cs r:List PV} {off m:Nat},below.belowAll σ.length cs=true→tX cs off m=some r→below.belowAll σ.length r=true:=by
  intro cs r off m hb ht
  obtain ⟨_,rfl⟩:=oO ht
  exact dg fun p hp=>bR hb (List.mem_of_mem_drop (List.mem_of_mem_take hp))
 unfold qg at hl
 split at hl
 ·split at hl
  ·rename_i cs hs
   simp only [Option.bind_eq_some_iff] at hl
   obtain ⟨r,hr,hm⟩:=hl
   exact mk (tk (h.wf _ _ hs) hr) hm
  ·cases hl
 ·split at hl
  ·rename_i vv kk es hs
   split at hl
   ·simp only [Option.bind_eq_some_iff] at hl
    obtain ⟨e,hei,r,hr,hm⟩:=hl
    have h0:below.belowAll σ.length es.flatten=true:=by
     rw [bZ]; exact bp (Nat.zero_le _) _ (h.wf _ _ hs)
    exact mk (tk (dg fun p hp=>bR h0 (List.mem_flatten.2 ⟨e,List.mem_of_getElem? hei,hp⟩)) hr) hm
   ·cases hl
  ·cases hl
 ·simp only [Option.bind_eq_some_iff] at hl
  obtain ⟨r,hr,hm⟩:=hl
  exact mk (tk (by simpa [below] using hb) hr) hm
 ·cases hl
theorem AN (hi:INV bars κ σ w) (he:ENV κ σ.length env a.tmps) {n:Option Nat} {x:Opd} {y:Operand} {t:TypeId} {i:TypeInfo} (hc:aJ x y=true) (hti:P.info? t=some i) (hs:i.size=n.getD 1) (ha:wt P t n.isSome=true)
  (ho:o.op=.load t y) (hr:opE bars env σ (.load n x)=some r):OpOK bars κ σ w ((execOp a.eval o).run P w) r:=by
 simp only [opE,Option.bind_eq_some_iff,Option.some.injEq] at hr
 obtain ⟨p,hp,v,hv,rfl⟩:=hr
 obtain ⟨h1,h2⟩:=aA he hc hp
 obtain ⟨ad,cs,vs,hx,hf,hlen,hm⟩:=yZ hi h1 hv
 obtain ⟨u,hu,hrel⟩:=FL (P:=P) hf hm hti hs ha
 exact aL hi (by simp [execOp,ho,hx,Instr.loadAt,Instr.sureAddr,hu]) hrel (y0 hi h2 hv)
theorem FM (hi:INV bars κ σ w) {zero:List PV} {t:TypeId} {i:TypeInfo} {z:Value} (hti:P.info? t=some i) (hz:i.zero=some z) (hc:tN zero z.cells.toList=true) (h1:z.cells.toList.all Value.oneCell'=true)
  (ho:o.op=.alloc t) (hr:opE bars env σ (.alloc zero)=some r):OpOK bars κ σ w ((execOp a.eval o).run P w) r:=by
 simp only [opE,Option.some.injEq] at hr
 subst hr
 obtain ⟨h2,h3⟩:=gZ κ σ.length zero _ hc
 obtain ⟨h4,h5⟩:=hi.push_var (T:=t) h2 (List.all_eq_true.1 h1) h3
 refine ⟨_,_,.pointer (some ⟨w.heap.size,0,none⟩),.inl ?_,⟨⟨w.heap.size,0,none⟩,rfl,by simp [Kn.at],fun _=>?_⟩,by simp [below],h4,h5,by simp⟩
 ·simp [execOp,ho,Instr.alloc,zeroValue,typeInfo,hti,hz,newVar,newRow]
 ·simp [Kn.at]
theorem JT (hi:INV bars κ σ w) (he:ENV κ σ.length env a.tmps) {n:Nat} {x:Opd} {y:Operand} {t:TypeId} (hc:aJ x y=true) (ho:o.op=.box t y) (hr:opE bars env σ (.box n x)=some r):OpOK bars κ σ w ((execOp a.eval o).run P w) r:=by
 simp only [opE,Option.bind_eq_some_iff] at hr
 obtain ⟨v,hv,hr⟩:=hr
 split at hr
 ·rename_i hlen
  cases hr
  obtain ⟨h1,h2⟩:=aA he hc hv
  obtain ⟨h3,h4⟩:=h1.cells hlen.2
  have hb:below.belowAll σ.length (cells v)=true:=by
   cases v<;>first|(simpa [cells,below,below.belowAll] using h2)|(simp [cells,below,below.belowAll])
  obtain ⟨h5,h6⟩:=hi.push_var (T:=t) h3 h4 hb
  refine ⟨_,_,.pointer (some ⟨w.heap.size,0,none⟩),.inl ?_,⟨⟨w.heap.size,0,none⟩,rfl,by simp [Kn.at],fun _=>?_⟩,by simp [below],h5,h6,by simp⟩
  ·simp [execOp,ho,Instr.box,newVar,newRow]
  ·simp [Kn.at]
 ·cases hr
end
end Go.Ev

namespace Go.Ev
variable [CodeRel]
theorem oP (w:World) (g:Nat) (cs:Array Value):(w.setRow g cs).heap.size=w.heap.size:=by
 simp [World.setRow]
theorem pG {P:Program} {w:World} {t:TypeId} {i:TypeInfo} {x:Value} {b o:Nat} {c:Array Value} {T:TypeId} (hti:P.info? t=some i) (hs:x.cells.size=i.size)
  (hc:w.heap[b]? = some (.cells c T (0,0))) (hle:o+x.cells.size≤c.size) (h1:∀ v∈x.cells.toList,v.oneCell'=true) :
  (storeVar t ⟨b,o,none⟩ x).run P w=.ok () (w.setRow b (c.toList.take o++x.cells.toList++c.toList.drop (o+x.cells.size)).toArray):=by
 have h:=run_storeCells_at (P:=P) b o T x.cells.toList 0 c w hc (by simpa using hle) h1
 simp [storeVar,sizeOf,typeInfo,hti,hs]
 simpa [hs] using h
theorem sK {cs:List PV} {off:Nat} {xs r:List PV} (h:AK cs off xs=some r):off+xs.length≤cs.length∧r=cs.take off++xs++cs.drop (off+xs.length):=by
 unfold AK at h
 split at h
 ·cases h; exact ⟨by assumption,rfl⟩
 ·cases h
theorem RelL.put {κ:Kn} {cs xs:List PV} {c us:List Value} {off:Nat} (h:RelL κ cs c) (hx:RelL κ xs us):RelL κ (cs.take off++xs++cs.drop (off+xs.length)) (c.take off++us++c.drop (off+us.length)):=by
 have:=hx.length
 rw [← this]
 exact RelL.append (RelL.append (RelL.take _ h) hx) (RelL.drop _ h)
theorem wu {p:PV} (h:okc p=true):okc (norm p)=true:=by
 cases p<;>simp_all [okc,norm]
theorem Oz {κ:Kn} {t:Bool} {es:List (List PV)} {x:Value} (h:RelV κ (.sl t es) x):RelV κ (.sl false es) x:=by
 obtain ⟨a,cap,esz,h1,h2,h3,h4⟩:=h
 exact ⟨a,cap,esz,h1,h2,by simp,h4⟩
theorem OA {κ:Kn} {id n:Nat} {es:List (List PV)} {x:Value} (h:RelV κ (.ow id n es) x):RelV κ (.sl false es) x:=by
 obtain ⟨_,a,cap,esz,h1,h2,h3,_⟩:=h
 exact ⟨a,cap,esz,h1,h2,by simp,h3⟩
mutual
theorem RelV.norm {κ:Kn}:∀ (p:PV) (x:Value),RelV κ p x→RelV κ (norm p) x
 | .k v,x,h=>h
 | .ptr _ _,x,h=>h
 | .pa _ _ _ _,x,h=>h
 | .pe _ _,x,h=>h
 | .sl t es,x,h=>Oz h
 | .ow id n es,x,h=>OA h
 | .rs _ _ _ _,x,h=>h
 | .agg cs,x,h=>by
  obtain ⟨vs,h1,h2,h3⟩:=h
  exact ⟨vs,h1,RelL.norm cs _ h2,h3⟩
 | .tup cs,x,h=>by
  obtain ⟨vs,h1,h2⟩:=h
  exact ⟨vs,h1,RelL.norm cs _ h2⟩
 | .fn _ _,x,h=>h
 | .map _,x,h=>h
 | .yld _,x,h=>h
 | .bm _ _,x,h=>h
 | .iface t v,x,h=>by
  obtain ⟨y,h1,h2⟩:=h
  exact ⟨y,h1,RelV.norm v y h2⟩
theorem RelL.norm {κ:Kn}:∀ (l:List PV) (x:List Value),RelL κ l x→RelL κ (norm.normAll l) x
 | [],x,h=>h
 | p::r,x,h=>by
  simp only [RelL] at h
  obtain ⟨u,l',h1,h2,h3⟩:=h
  exact ⟨u,l',h1,RelV.norm p u h2,RelL.norm r l' h3⟩
end
mutual
theorem jD {n:Nat}:∀ (p:PV),below n p=true→below n (norm p)=true
 | .k v,h=>rfl
 | .ptr _ _,h=>h
 | .pa _ _ _ _,h=>h
 | .pe _ _,h=>h
 | .sl t es,h=>h
 | .ow id m es,h=>by simp only [below,Bool.and_eq_true] at h; exact h.2
 | .rs _ _ _ _,h=>h
 | .agg cs,h=>by simp only [below,Ev.norm] at *; exact rH cs h
 | .tup cs,h=>by simp only [below,Ev.norm] at *; exact rH cs h
 | .fn _ _,h=>h
 | .map _,h=>h
 | .yld _,h=>h
 | .bm _ _,h=>h
 | .iface t v,h=>by simp only [below,Ev.norm] at *; exact jD v h
theorem rH {n:Nat}:∀ (l:List PV),below.belowAll n l=true→below.belowAll n (norm.normAll l)=true
 | [],h=>rfl
 | p::r,h=>by simp only [below.belowAll,norm.normAll,Bool.and_eq_true] at *; exact ⟨jD p h.1,rH r h.2⟩
end
theorem jZ {n:Nat} {p:PV} (h:below n p=true):below.belowAll n (cells p)=true:=by
 cases p<;>first|(simp only [cells,below,below.belowAll,Bool.and_true] at *; exact h)|(simp [cells,below.belowAll]; exact h)
theorem qV:∀ {bars:List Nat} {id:Nat} {x:PV},aj bars id x=true→∀ n∈bars,id<n→below n x=true
 | b::r,id,x,h,n,hn,hlt=>by
  simp only [aj,Bool.and_eq_true,Bool.or_eq_true,decide_eq_true_eq] at h
  cases hn with
  | head=>rcases h.1 with h1|h1
          ·omega
          ·exact h1
  | tail _ hn=>exact qV h.2 n hn hlt
theorem dC {σ:Sto} {id:Nat} {ob:Ob} (h:id<σ.length):(σ.set id ob)[id]? = some ob:=by simp [List.getElem?_set,h]
theorem cA {σ:Sto} {id j:Nat} {ob:Ob} (h:j≠id):(σ.set id ob)[j]? = σ[j]?:=by simp [List.getElem?_set,Ne.symm h]
theorem jE {κ:Kn} {p:PV} {x:Value} (h:RelV κ p x) (ho:okc p=true):(cells p).length=x.cells.size:=by
 have:=(h.cells ho).1.length
 simpa using this
theorem gz {k:Nat}:∀ {es:List (List PV)},bV k es=true→∀ e∈es,e.length=k
 | [],_,e,he=>by cases he
 | x::r,h,e,he=>by
  simp only [bV,Bool.and_eq_true,decide_eq_true_eq] at h
  cases he with
  | head=>exact h.1
  | tail _ he=>exact gz h.2 e he
theorem qi {α:Type} {k:Nat}:∀ {es:List (List α)},(∀ e∈es,e.length=k)→es.flatten.length=es.length * k
 | [],_=>by simp
 | x::r,h=>by
  rw [List.flatten_cons,List.length_append,qi fun e he=>h e (by simp [he]),h x (by simp),List.length_cons,Nat.succ_mul]
  omega
theorem xE {α:Type} {k:Nat}:∀ {es:List (List α)} (n:Nat),(∀ e∈es,e.length=k)→(es.take n).flatten=es.flatten.take (n * k)
 | [],n,_=>by simp
 | x::r,0,h=>by simp
 | x::r,n+1,h=>by
  have hx:=h x (by simp)
  rw [List.take_succ_cons,List.flatten_cons,List.flatten_cons,xE n fun e he=>h e (by simp [he]),List.take_append,List.take_of_length_le (l:=x) (by rw [hx,Nat.succ_mul]; omega)]
  congr 2
  rw [hx,Nat.succ_mul]; omega
theorem DG {α:Type} {k:Nat}:∀ {es:List (List α)} (n:Nat),(∀ e∈es,e.length=k)→(es.drop n).flatten=es.flatten.drop (n * k)
 | [],n,_=>by simp
 | x::r,0,h=>by simp
 | x::r,n+1,h=>by
  have hx:=h x (by simp)
  rw [List.drop_succ_cons,List.flatten_cons,DG n fun e he=>h e (by simp [he]),List.drop_append,List.drop_eq_nil_of_le (as:=x) (by rw [hx,Nat.succ_mul]; omega)]
  simp only [List.nil_append]
  congr 1
  rw [hx,Nat.succ_mul]; omega
theorem AO {α:Type} {k:Nat}:∀ {es:List (List α)} {j:Nat} {e e':List α},(∀ e∈es,e.length=k)→es[j]? = some e→∀ {off:Nat} {xs:List α},off+xs.length≤k→e'=e.take off++xs++e.drop (off+xs.length) →
  (es.set j e').flatten=es.flatten.take (j * k+off)++xs++es.flatten.drop (j * k+off+xs.length)
 | [],j,e,e',_,hj,_,_,_,_=>by simp at hj
 | x::r,0,e,e',h,hj,off,xs,hle,he=>by
  simp at hj; subst hj; subst he
  have hx:=h x (by simp)
  simp only [List.set_cons_zero,List.flatten_cons,Nat.zero_mul,Nat.zero_add]
  rw [List.take_append_of_le_length (by omega),List.drop_append_of_le_length (by omega)]
  simp [List.append_assoc]
 | x::r,j+1,e,e',h,hj,off,xs,hle,he=>by
  have hx:=h x (by simp)
  simp only [List.getElem?_cons_succ] at hj
  rw [List.set_cons_succ,List.flatten_cons,List.flatten_cons,AO (fun e he=>h e (by simp [he])) hj hle he]
  rw [List.take_append,List.take_of_length_le (l:=x) (by rw [hx,Nat.succ_mul]; omega),List.drop_append,List.drop_eq_nil_of_le (as:=x) (by rw [hx,Nat.succ_mul]; omega)]
  have e1:(j+1) * k+off - x.length=j * k+off:=by rw [hx,Nat.succ_mul]; omega
  have e2:(j+1) * k+off+xs.length - x.length=j * k+off+xs.length:=by rw [hx,Nat.succ_mul]; omega
  rw [e1,e2]
  simp [List.append_assoc]
section
variable {P:Program} {bars:List Nat} {κ:Kn} {σ:Sto} {w:World} {env:Env} {a:Act} {o:Oper} {r:OpR}
theorem INV.row {w:World} (hi:INV bars κ σ w) {id b:Nat} {c c':Array Value} {T:TypeId} {ob:Ob} (hlt:id<σ.length) (hown:own κ σ id=some b) (hc:w.heap[b]? = some (.cells c T (0,0))) (hsz:c'.size=c.size)
  (hblk:ee κ id ob=some b) (hob:obRel κ (w.setRow b c') id ob) (hM:∀ o v,κ.M b o=some v→c'[o]? = c[o]?) (hwf:ba σ.length ob=true) (hwfb:∀ n∈bars,id<n→ba n ob=true) :
  INV bars κ (σ.set id ob) (w.setRow b c')∧Kept σ.length κ σ w κ (σ.set id ob) (w.setRow b c'):=by
 refine INV.one hi id ob (by omega) (by simp; omega) (dC hlt) (fun j hj=>cA hj) (Ext.refl _ _) (fun _ _ _=>rfl) (by rw [oP]; exact Nat.le_refl _)
  (fun b' hb' hno=>setRow_other _ _ _ _ (fun e=>hno (by rw [hown,e]))) (fun _ _ _ _=>rfl) hob (fun b' hb'=>by rw [hblk] at hb'; cases hb'; exact .inl hown) (fun b' o v hm=>?_) (fun b' hcap=>?_) (by simpa using hwf) hwfb rfl rfl rfl
 ·by_cases hbb:b'=b
  ·subst hbb
   rw [cell_setRow_same w b' o c c' T (0,0) hc,hM o v hm]
   have:=hi.mem _ _ _ hm
   rwa [bU hc] at this
  ·rw [cell_setRow_other _ _ _ _ (by simpa using hbb)]; exact hi.mem _ _ _ hm
 ·obtain ⟨d,T',fr,hd,hsz'⟩:=hi.cap b' hcap
  by_cases hbb:b'=b
  ·subst hbb
   rw [hc] at hd; cases hd
   exact ⟨c',T,(0,0),setRow_heap _ _ _ _ _ _ hc,by omega⟩
  ·exact ⟨d,T',fr,by rw [setRow_other _ _ _ _ hbb]; exact hd,hsz'⟩
theorem sL (hi:INV bars κ σ w) {n:Nat} {p v:PV} {σ':Sto} {x' y':Operand} {t:TypeId} {i:TypeInfo} (h1:RelV κ p (a.eval x')) (h2:below σ.length p=true) (h3:RelV κ v (a.eval y')) (h4:below σ.length v=true) (hti:P.info? t=some i) (hs:i.size=n)
  (ho:o.op=.store t x' y') (hst:mD bars σ n p v=some σ'):OpOK bars κ σ w ((execOp a.eval o).run P w) (.val (.tup []) σ'):=by
 unfold mD at hst
 split at hst
 ·rename_i hlen
  obtain ⟨hlen,hok⟩:=hlen
  have hxs:=jE h3 hok
  split at hst
  ·rename_i id off
   split at hst
   ·rename_i cs hsi
    split at hst
    ·rename_i hbar
     simp only [Option.bind_eq_some_iff,Option.some.injEq] at hst
     obtain ⟨cs',hput,rfl⟩:=hst
     obtain ⟨hle,rfl⟩:=sK hput
     have hlt:id<σ.length:=(List.getElem?_eq_some_iff.1 hsi).1
     obtain ⟨hg,h0,⟨c,T,hc,hrel,hone⟩,hM⟩:=hi.obs id _ hsi
     obtain ⟨q,hq,-,hq'⟩:=h1
     have hq':=hq' hg
     subst hq'
     obtain ⟨hcr,hc1⟩:=h3.cells hok
     have hcl:cs.length=c.size:=by simpa using hrel.length
     have hrun0:=pG (P:=P) (x:=a.eval y') (o:=(κ.ρ id).2+off) hti (by rw [← hxs,hlen,hs]) hc (by rw [h0]; omega) hc1
     have hrun:=hrun0
     simp only [h0,Nat.zero_add,List.append_assoc] at hrun
     have hob:obRel κ (w.setRow (κ.ρ id).1 (c.toList.take off++(a.eval y').cells.toList++c.toList.drop (off+(a.eval y').cells.size)).toArray) id (.var (cs.take off++cells v++cs.drop (off+(cells v).length))):=by
      refine ⟨hg,h0,⟨_,T,setRow_heap _ _ _ _ _ _ hc,?_,?_⟩,hM⟩
      ·simpa using RelL.put (off:=off) hrel hcr
      ·intro u hu
       simp only [List.mem_append] at hu
       rcases hu with (hu|hu)|hu
       ·exact hone u (List.mem_of_mem_take hu)
       ·exact hc1 u hu
       ·exact hone u (List.mem_of_mem_drop hu)
     have hbl:∀ m,below.belowAll m cs=true→below m v=true→ba m (.var (cs.take off++cells v++cs.drop (off+(cells v).length)))=true:=by
      intro m hb1 hb2
      simp only [ba,cE,Bool.and_eq_true]
      exact ⟨⟨dg fun p hp=>bR hb1 (List.mem_of_mem_take hp),jZ hb2⟩,dg fun p hp=>bR hb1 (List.mem_of_mem_drop hp)⟩
     obtain ⟨h5,h6⟩:=INV.row hi (c':=(c.toList.take off++(a.eval y').cells.toList++c.toList.drop (off+(a.eval y').cells.size)).toArray) hlt (by rw [dx hsi]; rfl) hc
      (by simp; omega) rfl hob (fun o v hm=>by rw [hM o] at hm; cases hm) (hbl _ (hi.wf _ _ hsi) h4) (fun m hm hlt'=>hbl m ((hi.wfb m hm).2 id _ hlt' hsi) (qV hbar m hm hlt'))
     refine ⟨κ,_,undef,.inr ⟨?_,rfl⟩,iK _,rfl,h5,h6,by simp⟩
     simp [execOp,ho,Instr.storeAt,Instr.sureAddr,hq,h0,hrun,List.append_assoc]
    ·cases hst
   ·cases hst
  ·rename_i id ver j off
   split at hst
   ·rename_i vv kk es hsi
    split at hst
    ·rename_i hver
     obtain ⟨hver,hb0⟩:=hver
     subst hver
     simp only [Option.bind_eq_some_iff,Option.some.injEq] at hst
     obtain ⟨e,hej,e',hput,rfl⟩:=hst
     obtain ⟨hle,rfl⟩:=sK hput
     have hlt:id<σ.length:=(List.getElem?_eq_some_iff.1 hsi).1
     obtain ⟨hg,hke,⟨c,T,hc,hes,hone,pre,post,vs,hcl,hpre,hrel⟩,hM⟩:=hi.obs id _ hsi
     obtain ⟨-,q,hq,hq'⟩:=h1
     have hq':=hq' hg
     subst hq'
     rw [hke] at hq
     have hnr:=RelV.norm v _ h3
     have hnok:=wu hok
     obtain ⟨hcr,hc1⟩:=hnr.cells hnok
     have hns:=jE hnr hnok
     have hel:=hes e (List.mem_of_getElem? hej)
     have hvl:vs.length=es.length * kk:=by rw [← hrel.length,qi hes]
     have hjl:j<es.length:=(List.getElem?_eq_some_iff.1 hej).1
     have hmul:(j+1) * kk≤es.length * kk:=Nat.mul_le_mul_right _ hjl
     rw [Nat.succ_mul] at hmul
     have hcsz:c.size=pre.length+vs.length+post.length:=by rw [← Array.length_toList,hcl]; simp only [List.length_append]
     have hrun:=pG (P:=P) (x:=a.eval y') (o:=(κ.ρ id).2+j * kk+off) hti (by rw [← hxs,hlen,hs]) hc (by omega) hc1
     have hbo:∀ m,below.belowEs m es=true→below m (Ev.norm v)=true→ba m (.arr vv kk (es.set j (e.take off++cells (Ev.norm v)++e.drop (off+(cells (Ev.norm v)).length))))=true:=by
      intro m _ _
      have h0:below.belowEs 0 es=true:=hi.wf _ _ hsi
      simp only [ba]
      have:∀ (l:List (List PV)),below.belowEs 0 l=true→∀ j e',below.belowAll 0 e'=true→below.belowEs 0 (l.set j e')=true:=by
       intro l
       induction l with
       | nil=>intro _ j e' _; simp [below.belowEs]
       | cons x r ih =>
        intro h j e' he'
        simp only [below.belowEs,Bool.and_eq_true] at h
        cases j with
        | zero=>simp [below.belowEs,h.2,he']
        | succ j=>simp only [List.set_cons_succ,below.belowEs,h.1,ih h.2 j e' he',Bool.and_self]
      refine this es h0 j _ ?_
      have he0:below.belowAll 0 e=true:=by
       have hf:=bZ (n:=0) es
       rw [h0] at hf
       exact dg fun p hp=>bR hf (List.mem_flatten.2 ⟨e,List.mem_of_getElem? hej,hp⟩)
      simp only [cE,Bool.and_eq_true]
      exact ⟨⟨dg fun p hp=>bR he0 (List.mem_of_mem_take hp),jZ hb0⟩,dg fun p hp=>bR he0 (List.mem_of_mem_drop hp)⟩
     have hb0':∀ m,below.belowEs m es=true:=fun m=>bp (Nat.zero_le _) _ (hi.wf _ _ hsi)
     have hbv:∀ m,below m (Ev.norm v)=true:=fun m=>bk (Nat.zero_le _) _ hb0
     have hlist:c.toList.take ((κ.ρ id).2+j * kk+off)++(a.eval y').cells.toList++c.toList.drop ((κ.ρ id).2+j * kk+off+(a.eval y').cells.size)=pre++(vs.take (j * kk+off)++(a.eval y').cells.toList++vs.drop (j * kk+off+(a.eval y').cells.toList.length))++post:=by
      rw [hcl,List.append_assoc pre,List.take_append,List.take_of_length_le (l:=pre) (by omega),List.drop_append,List.drop_eq_nil_of_le (as:=pre) (by omega),hpre]
      rw [List.take_append_of_le_length (by omega),List.drop_append_of_le_length (by omega)]
      simp only [List.append_assoc,List.nil_append,Array.length_toList]
      congr 2
      ·congr 1; omega
      ·congr 3; omega
     have hob:obRel κ (w.setRow (κ.ρ id).1 (c.toList.take ((κ.ρ id).2+j * kk+off)++(a.eval y').cells.toList++c.toList.drop ((κ.ρ id).2+j * kk+off+(a.eval y').cells.size)).toArray) id (.arr vv kk (es.set j (e.take off++cells (Ev.norm v)++e.drop (off+(cells (Ev.norm v)).length)))):=by
      refine ⟨hg,hke,⟨_,T,setRow_heap _ _ _ _ _ _ hc,fun e' he'=>?_,fun u hu=>?_,pre,post,_,hlist,hpre,?_⟩,hM⟩
      ·rcases List.mem_or_eq_of_mem_set he' with h|h
       ·exact hes e' h
       ·subst h; simp; omega
      ·simp only [List.mem_append] at hu
       rcases hu with (hu|hu)|hu
       ·exact hone u (List.mem_of_mem_take hu)
       ·exact hc1 u hu
       ·exact hone u (List.mem_of_mem_drop hu)
      ·rw [AO hes hej (by omega) rfl]
       exact RelL.put hrel hcr
     obtain ⟨h5,h6⟩:=INV.row hi (c':=(c.toList.take ((κ.ρ id).2+j * kk+off)++(a.eval y').cells.toList++c.toList.drop ((κ.ρ id).2+j * kk+off+(a.eval y').cells.size)).toArray) hlt (by rw [dx hsi]; rfl) hc
      (by simp; omega) rfl hob (fun o v hm=>by
       have hlt':o<(κ.ρ id).2:=by
        rcases Nat.lt_or_ge o (κ.ρ id).2 with h'|h'
        ·exact h'
        ·rw [hM o h'] at hm; cases hm
       rw [List.append_assoc]
       simp only [List.getElem?_toArray]
       rw [List.getElem?_append_left (by simp; omega),List.getElem?_take,if_pos (by omega)]
       simp) (hbo _ (hb0' _) (hbv _)) (fun m hm hlt'=>hbo m (hb0' _) (hbv _))
     refine ⟨κ,_,undef,.inr ⟨?_,rfl⟩,iK _,rfl,h5,h6,by simp⟩
     simp [execOp,ho,Instr.storeAt,Instr.sureAddr,hq,hrun,List.append_assoc]
    ·cases hst
   ·rename_i vv kk es z hsi
    split at hst
    ·rename_i hver
     obtain ⟨hver,hj,hb0⟩:=hver
     subst hver
     simp only [Option.bind_eq_some_iff,Option.some.injEq] at hst
     obtain ⟨z',hput,rfl⟩:=hst
     obtain ⟨hle,rfl⟩:=sK hput
     have hlt:id<σ.length:=(List.getElem?_eq_some_iff.1 hsi).1
     obtain ⟨hg,hke,⟨c,T,hc,hzl,hE,pre,post,vs,hcl,hpre,hrel,hone⟩,hM⟩:=hi.obs id _ hsi
     obtain ⟨-,q,hq,hq'⟩:=h1
     have hq':=hq' hg
     subst hq'
     rw [hke,hj] at hq
     have hnr:=RelV.norm v _ h3
     have hnok:=wu hok
     obtain ⟨hcr,hc1⟩:=hnr.cells hnok
     have hns:=jE hnr hnok
     have hvl:vs.length=kk:=by rw [← hrel.length,hzl]
     have hcsz:c.size=pre.length+vs.length+post.length:=by rw [← Array.length_toList,hcl]; simp only [List.length_append]
     have hrun:=pG (P:=P) (x:=a.eval y') (o:=(κ.ρ id).2+es.length * kk+off) hti (by rw [← hxs,hlen,hs]) hc (by omega) hc1
     have hwf:=hi.wf _ _ hsi
     simp only [ba,Bool.and_eq_true] at hwf
     have hbo:ba 0 (.pt vv kk es (z.take off++cells (Ev.norm v)++z.drop (off+(cells (Ev.norm v)).length)))=true:=by
      simp only [ba,cE,Bool.and_eq_true]
      exact ⟨hwf.1,⟨dg fun p hp=>bR hwf.2 (List.mem_of_mem_take hp),jZ hb0⟩,dg fun p hp=>bR hwf.2 (List.mem_of_mem_drop hp)⟩
     have hlist:c.toList.take ((κ.ρ id).2+es.length * kk+off)++(a.eval y').cells.toList++c.toList.drop ((κ.ρ id).2+es.length * kk+off+(a.eval y').cells.size)=pre++(vs.take off++(a.eval y').cells.toList++vs.drop (off+(a.eval y').cells.toList.length))++post:=by
      rw [hcl,List.append_assoc pre,List.take_append,List.take_of_length_le (l:=pre) (by omega),List.drop_append,List.drop_eq_nil_of_le (as:=pre) (by omega),hpre]
      rw [List.take_append_of_le_length (by omega),List.drop_append_of_le_length (by omega)]
      simp only [List.append_assoc,List.nil_append,Array.length_toList]
      congr 2
      ·congr 1; omega
      ·congr 3; omega
     have hob:obRel κ (w.setRow (κ.ρ id).1 (c.toList.take ((κ.ρ id).2+es.length * kk+off)++(a.eval y').cells.toList++c.toList.drop ((κ.ρ id).2+es.length * kk+off+(a.eval y').cells.size)).toArray) id (.pt vv kk es (z.take off++cells (Ev.norm v)++z.drop (off+(cells (Ev.norm v)).length))):=by
      refine ⟨hg,hke,⟨_,T,setRow_heap _ _ _ _ _ _ hc,?_,hE,pre,post,_,hlist,hpre,RelL.put hrel hcr,fun u hu=>?_⟩,hM⟩
      ·simp; omega
      ·simp only [List.mem_append] at hu
       rcases hu with (hu|hu)|hu
       ·exact hone u (List.mem_of_mem_take hu)
       ·exact hc1 u hu
       ·exact hone u (List.mem_of_mem_drop hu)
     obtain ⟨h5,h6⟩:=INV.row hi (c':=(c.toList.take ((κ.ρ id).2+es.length * kk+off)++(a.eval y').cells.toList++c.toList.drop ((κ.ρ id).2+es.length * kk+off+(a.eval y').cells.size)).toArray) hlt (by rw [dx hsi]; rfl) hc
      (by simp; omega) rfl hob (fun o v hm=>by
       have hlt':o<(κ.ρ id).2+es.length * kk:=by
        rcases Nat.lt_or_ge o ((κ.ρ id).2+es.length * kk) with h'|h'
        ·exact h'
        ·rw [hM o h'] at hm; cases hm
       rw [List.append_assoc]
       simp only [List.getElem?_toArray]
       rw [List.getElem?_append_left (by simp; omega),List.getElem?_take,if_pos (by omega)]
       simp) (fp (Nat.zero_le _) _ hbo) (fun m hm hlt'=>fp (Nat.zero_le _) _ hbo)
     refine ⟨κ,_,undef,.inr ⟨?_,rfl⟩,iK _,rfl,h5,h6,by simp⟩
     simp [execOp,ho,Instr.storeAt,Instr.sureAddr,hq,hrun,List.append_assoc]
    ·cases hst
   ·cases hst
  ·cases hst
 ·cases hst
theorem FN (hi:INV bars κ σ w) (he:ENV κ σ.length env a.tmps) {n:Nat} {x y:Opd} {x' y':Operand} {t:TypeId} {i:TypeInfo} (hx:aJ x x'=true) (hy:aJ y y'=true) (hti:P.info? t=some i) (hs:i.size=n)
  (ho:o.op=.store t x' y') (hr:opE bars env σ (.store n x y)=some r):OpOK bars κ σ w ((execOp a.eval o).run P w) r:=by
 simp only [opE,Option.bind_eq_some_iff,Option.some.injEq] at hr
 obtain ⟨p,hp,v,hv,σ',hst,rfl⟩:=hr
 obtain ⟨h1,h2⟩:=aA he hx hp
 obtain ⟨h3,h4⟩:=aA he hy hv
 exact sL hi h1 h2 h3 h4 hti hs ho hst
theorem Eu (hi:INV bars κ σ w) (he:ENV κ σ.length env a.tmps) {b n:Nat} {x y:Opd} {x' y':Operand} {t:TypeId} {i:TypeInfo} (hx:aJ x x'=true) (hy:aJ y y'=true) (hti:P.info? t=some i) (hs:i.size=n)
  (ho:o.op=.store t x' y') (hr:opE bars env σ (.storeb b n x y)=some r):OpOK bars κ σ w ((execOp a.eval o).run P w) r:=by
 simp only [opE,Option.bind_eq_some_iff] at hr
 obtain ⟨p,hp,hr⟩:=hr
 split at hr
 ·simp only [Option.bind_eq_some_iff,Option.some.injEq] at hr
  obtain ⟨v,hv,σ',hst,rfl⟩:=hr
  obtain ⟨h1,h2⟩:=aA he hx hp
  obtain ⟨h3,h4⟩:=aA he hy hv
  exact sL hi h1 h2 h3 h4 hti hs ho hst
 ·cases hr
theorem Ew (hi:INV bars κ σ w) (he:ENV κ σ.length env a.tmps) {av:List Nat} {n:Nat} {x y:Opd} {x' y':Operand} {t:TypeId} {i:TypeInfo} (hx:aJ x x'=true) (hy:aJ y y'=true) (hti:P.info? t=some i) (hs:i.size=n)
  (ho:o.op=.store t x' y') (hr:opE bars env σ (.storem av n x y)=some r):OpOK bars κ σ w ((execOp a.eval o).run P w) r:=by
 simp only [opE,Option.bind_eq_some_iff] at hr
 obtain ⟨p,hp,hr⟩:=hr
 split at hr
 ·simp only [Option.bind_eq_some_iff,Option.some.injEq] at hr
  obtain ⟨v,hv,σ',hst,rfl⟩:=hr
  obtain ⟨h1,h2⟩:=aA he hx hp
  obtain ⟨h3,h4⟩:=aA he hy hv
  exact sL hi h1 h2 h3 h4 hti hs ho hst
 ·cases hr
theorem FO (hi:INV bars κ σ w) (he:ENV κ σ.length env a.tmps) {off:Nat} {x:Opd} {x':Operand} {t:TypeId} {k:Nat} {fs:Array Field} {f:Field} {i:TypeInfo} (hx:aJ x x'=true) (ht:P.underlying t=some (.struct fs)) (hf:fs[k]? = some f) (hfi:P.info? f.type=some i) (hz:i.size≠0) (hoff:f.offset=off)
  (ho:o.op=.fieldAddr t x' k) (hr:opE bars env σ (.faddr off x)=some r):OpOK bars κ σ w ((execOp a.eval o).run P w) r:=by
 have run:∀ {ad:Addr},a.eval x'=.pointer (some ad)→(execOp a.eval o).run P w=.ok (.value (.pointer (some (ad.add off)))) w:=by
  intro ad had
  simp [execOp,ho,Instr.fieldAt,underlying,ht,hf,had,Instr.sureAddr,fieldPlace,sizeOf,typeInfo,hfi,hz,hoff]
 simp only [opE] at hr
 split at hr
 ·rename_i id q hv
  cases hr
  obtain ⟨⟨ad,h1,hge,h1'⟩,h2⟩:=aA he hx hv
  refine aL hi (run h1) ⟨_,rfl,hge,fun hg=>?_⟩ (by simpa [below] using h2)
  have:=h1' hg
  subst this
  rw [dl,Nat.add_assoc]
 ·rename_i id ver j q hv
  cases hr
  obtain ⟨⟨h0,ad,h1,h1'⟩,h2⟩:=aA he hx hv
  refine aL hi (run h1) ⟨h0,_,rfl,fun hg=>?_⟩ (by simpa [below] using h2)
  have:=h1' hg
  subst this
  rw [dl,Nat.add_assoc]
 ·rename_i cs q hv
  cases hr
  obtain ⟨⟨b,oo,h1,h1'⟩,h2⟩:=aA he hx hv
  refine aL hi (run h1) ⟨b,oo,by rw [dl,Nat.add_assoc],h1'⟩ (by simpa [below] using h2)
 ·cases hr
end
end Go.Ev

namespace Go.Ev
variable [CodeRel]
theorem RelE.get {κ:Kn} {esz b:Nat}:∀ {es:List (List PV)} {o i:Nat} {e:List PV},RelE κ esz b o es→es[i]? = some e→e.length=esz∧RelM κ b (o+i * esz) e
 | [],o,i,e,_,h=>by simp at h
 | x::r,o,i,e,hr,h=>by
  simp only [RelE] at hr
  cases i with
  | zero=>simp at h; subst h; exact ⟨hr.1,by simpa using hr.2.1⟩
  | succ i =>
   simp at h
   have:=RelE.get hr.2.2 h
   refine ⟨this.1,?_⟩
   rw [show o+(i+1) * esz=o+esz+i * esz by rw [Nat.succ_mul]; omega]
   exact this.2
theorem RelE.take {κ:Kn} {esz b:Nat}:∀ {es:List (List PV)} {o:Nat} (n:Nat),RelE κ esz b o es→RelE κ esz b o (es.take n)
 | es,o,0,h=>by simp [RelE]
 | [],o,n+1,h=>by simp [RelE]
 | x::r,o,n+1,h=>by
  simp only [RelE,List.take_succ_cons] at *
  exact ⟨h.1,h.2.1,RelE.take n h.2.2⟩
theorem RelE.drop {κ:Kn} {esz b:Nat}:∀ {es:List (List PV)} {o:Nat} (n:Nat),RelE κ esz b o es→RelE κ esz b (o+n * esz) (es.drop n)
 | es,o,0,h=>by simpa using h
 | [],o,n+1,h=>by simp [RelE]
 | x::r,o,n+1,h=>by
  simp only [RelE] at h
  have:=RelE.drop n h.2.2
  rw [show o+(n+1) * esz=o+esz+n * esz by rw [Nat.succ_mul]; omega]
  simpa using this
theorem jF {n:Nat} {l:List (List PV)} (h:below.belowEs n l=true) {e:List PV} (he:e∈l):below.belowAll n e=true:=by
 rw [← bZ] at h
 exact dg fun p hp=>bR h (List.mem_flatten.2 ⟨e,he,hp⟩)
theorem gK {n:Nat} {l:List (List PV)} (h:∀ e∈l,below.belowAll n e=true):below.belowEs n l=true:=by
 induction l with
 | nil=>rfl
 | cons x r ih=>simp only [below.belowEs,Bool.and_eq_true]; exact ⟨h x (by simp),ih fun e he=>h e (by simp [he])⟩
section
variable {P:Program} {bars:List Nat} {κ:Kn} {σ:Sto} {w:World} {env:Env} {a:Act} {o:Oper} {r:OpR}
theorem HD (hi:INV bars κ σ w) (he:ENV κ σ.length env a.tmps) {x:Opd} {x':Operand} (hx:aJ x x'=true) (ho:o.op=.nilCheck x') (hr:opE bars env σ (.nilc x)=some r):OpOK bars κ σ w ((execOp a.eval o).run P w) r:=by
 simp only [opE] at hr
 split at hr
 ·cases hr
 ·rename_i f cap hv
  cases hr
  obtain ⟨⟨vs,h1,h3⟩,h2⟩:=aA he hx hv
  exact aL hi (by simp [execOp,ho,h1]) ⟨vs,rfl,h3⟩ h2
 ·cases hr
 ·rename_i v hk hf hf' hv
  cases hr
  obtain ⟨h1,h2⟩:=aA he hx hv
  refine aL hi ?_ h1 h2
  cases v with
  | k u=>exact (hk u rfl).elim
  | ptr id q=>obtain ⟨ad,h1,_⟩:=h1; simp [execOp,ho,h1]
  | pa id ver i q=>obtain ⟨_,ad,h1,_⟩:=h1; simp [execOp,ho,h1]
  | pe cs q=>obtain ⟨b,oo,h1,_⟩:=h1; simp [execOp,ho,h1]
  | sl t es=>obtain ⟨_,_,_,h1,_⟩:=h1; simp [execOp,ho,h1]
  | ow id n es=>obtain ⟨_,_,_,_,h1,_⟩:=h1; simp [execOp,ho,h1]
  | rs id ver q len=>obtain ⟨_,_,_,h1,_⟩:=h1; simp [execOp,ho,h1]
  | agg cs=>obtain ⟨_,h1,_⟩:=h1; simp [execOp,ho,h1]
  | tup cs=>obtain ⟨_,h1,_⟩:=h1; simp [execOp,ho,h1]
  | fn f cap=>exact (hf' f cap rfl).elim
  | map id=>obtain ⟨q,h1,_⟩:=h1; simp [execOp,ho,h1]
  | yld id=>obtain ⟨q,h1,_⟩:=h1; simp [execOp,ho,h1]
  | bm f fs=>obtain ⟨q,h1,_⟩:=h1; simp [execOp,ho,h1]
  | iface t u=>obtain ⟨q,h1,_⟩:=h1; simp [execOp,ho,h1]
 ·cases hr
theorem JU (hi:INV bars κ σ w) (he:ENV κ σ.length env a.tmps) {str:Bool} {x:Opd} {x':Operand} {t:TypeId} {d:TypeDesc} (hx:aJ x x'=true) (ht:P.underlying t=some d) (hd:if str then d=.string else ∃ e,d=.slice e)
  (ho:o.op=.call { callee:=.builtin .len,args:=#[x'],argTypes:=#[t] }) (hr:opE bars env σ (.len str x)=some r):OpOK bars κ σ w ((execOp a.eval o).run P w) r:=by
 simp only [opE,Option.bind_eq_some_iff] at hr
 obtain ⟨v,hv,n,hn,hr⟩:=hr
 split at hr
 ·cases hr
  obtain ⟨h1,h2⟩:=aA he hx hv
  refine aL hi (x:=.int .i64 n) ?_ rfl rfl
  unfold Ow at hn
  split at hn
  ·split at hn
   ·cases hn
   ·rename_i hs
    cases hn
    obtain ⟨_,_,_,h1,_⟩:=h1
    simp only [hs,if_false] at hd
    obtain ⟨e,rfl⟩:=hd
    simp [execOp,ho,resolve,invoke,builtin,Builtin.len_,underlying,ht,h1,goInt]
  ·split at hn
   ·cases hn
   ·rename_i hs
    cases hn
    obtain ⟨_,_,_,_,h1,_⟩:=h1
    simp only [hs,if_false] at hd
    obtain ⟨e,rfl⟩:=hd
    simp [execOp,ho,resolve,invoke,builtin,Builtin.len_,underlying,ht,h1,goInt]
  ·split at hn
   ·cases hn
   ·rename_i hs
    cases hn
    obtain ⟨_,_,_,h1,_⟩:=h1
    simp only [hs,if_false] at hd
    obtain ⟨e,rfl⟩:=hd
    simp [execOp,ho,resolve,invoke,builtin,Builtin.len_,underlying,ht,h1,goInt]
  ·split at hn
   ·rename_i hs
    cases hn
    simp only [RelV] at h1
    simp only [hs,if_true] at hd
    subst hd
    simp [execOp,ho,resolve,invoke,builtin,Builtin.len_,underlying,ht,h1,goInt]
   ·cases hn
  ·cases hn
 ·cases hr
theorem HE (hi:INV bars κ σ w) (he:ENV κ σ.length env a.tmps) {x:Opd} {x':Operand} {s t:TypeId} {d:TypeDesc} {k:IntKind} (hx:aJ x x'=true) (hs:P.underlying s=some d) (ht:P.underlying t=some (.int k))
  (ho:o.op=.convert s t x') (hr:opE bars env σ (.conv k x)=some r):OpOK bars κ σ w ((execOp a.eval o).run P w) r:=by
 simp only [opE] at hr
 split at hr
 ·rename_i j n hv
  cases hr
  obtain ⟨h1,h2⟩:=aA he hx hv
  simp only [RelV] at h1
  exact aL hi (by simp [execOp,ho,convert,underlying,hs,ht,h1,Conv.intToInt]) rfl rfl
 ·cases hr
theorem HF (hi:INV bars κ σ w) (he:ENV κ σ.length env a.tmps) {x:Opd} {x':Operand} {s t:TypeId} {d:TypeDesc} (hx:aJ x x'=true) (hs:P.underlying s=some d) (ht:P.underlying t=some .string)
  (ho:o.op=.convert s t x') (hr:opE bars env σ (.strc x)=some r):OpOK bars κ σ w ((execOp a.eval o).run P w) r:=by
 simp only [opE] at hr
 split at hr
 ·rename_i j n hv
  cases hr
  obtain ⟨h1,h2⟩:=aA he hx hv
  simp only [RelV] at h1
  exact aL hi (by simp [execOp,ho,convert,underlying,hs,ht,h1,Conv.intToString]) rfl rfl
 ·cases hr
theorem JV (hi:INV bars κ σ w) (he:ENV κ σ.length env a.tmps) {neg:Bool} {x y:Opd} {x' y':Operand} {t t':TypeId} (hx:aJ x x'=true) (hy:aJ y y'=true) (ht:P.underlying t=some .bool)
  (ho:o.op=.binOp (if neg then .neq else .eql) t x' y' t') (hr:opE bars env σ (.beq neg x y)=some r):OpOK bars κ σ w ((execOp a.eval o).run P w) r:=by
 simp only [opE] at hr
 split at hr
 ·rename_i m n hu hv
  cases hr
  obtain ⟨h1,-⟩:=aA he hx hu
  obtain ⟨h2,-⟩:=aA he hy hv
  simp only [RelV] at h1 h2
  have hg:∀ op w,(eqGuard op t x' y' (.bool m) (.bool n)).run P w=.ok () w:=fun op w=>by unfold eqGuard; split<;>simp
  have hin:∀ d w,(Op.equalIn (d+1) t (.bool m) (.bool n)).run P w=.ok (m == n) w:=fun d w=>by simp [Op.equalIn,underlying,ht]
  have heq:∀ w,(Op.equal t (.bool m) (.bool n)).run P w=.ok (m == n) w:=fun w=>hin 9999 w
  refine aL hi ?_ rfl rfl
  cases neg
  ·simp only [Bool.false_eq_true,if_false] at ho
   simp [execOp,ho,h1,h2,hg,binOp,heq]
  ·simp only [if_true] at ho
   simp [execOp,ho,h1,h2,hg,binOp,heq]
 ·cases hr
theorem Ey (hi:INV bars κ σ w) (he:ENV κ σ.length env a.tmps) {x:Opd} {x':Operand} {t:TypeId} {d:TypeDesc} (hx:aJ x x'=true) (ht:P.underlying t=some d) (hd:∀ ms,d≠.interface ms)
  (ho:o.op=.makeInterface t x') (hr:opE bars env σ (.miface t x)=some r):OpOK bars κ σ w ((execOp a.eval o).run P w) r:=by
 simp only [opE,Option.bind_eq_some_iff,Option.some.injEq] at hr
 obtain ⟨v,hv,rfl⟩:=hr
 obtain ⟨h1,h2⟩:=aA he hx hv
 refine aL hi ?_ ⟨_,rfl,RelV.norm v _ h1⟩ (by simpa [below] using jD v h2)
 cases d<;>first|(exact absurd rfl (hd _))|simp [execOp,ho,Instr.makeInterface,underlying,ht]
theorem oQ (he:ENV κ σ.length env a.tmps):∀ {l:List Opd} {l':List Operand} {vs:List PV},l.length=l'.length→(∀ p∈l.zip l',aJ p.1 p.2=true)→evs env l=some vs→RelL κ vs (l'.map a.eval)∧below.belowAll σ.length vs=true
 | [],[],vs,_,_,h=>by simp [evs] at h; subst h; exact ⟨rfl,rfl⟩
 | [],_::_,vs,hl,_,_=>by simp at hl
 | _::_,[],vs,hl,_,_=>by simp at hl
 | x::r,y::s,vs,hl,hc,h=>by
  simp only [evs,Option.bind_eq_some_iff,Option.some.injEq] at h
  obtain ⟨v,hv,us,hus,rfl⟩:=h
  obtain ⟨h1,h2⟩:=aA he (hc (x,y) (by simp)) hv
  obtain ⟨h3,h4⟩:=oQ he (by simpa using hl) (fun p hp=>hc p (by simp [hp])) hus
  exact ⟨⟨_,_,rfl,h1,h3⟩,by simp [below.belowAll,h2,h4]⟩
theorem FP (hi:INV bars κ σ w) (he:ENV κ σ.length env a.tmps) {f:FuncId} {xs:List Opd} {xs':Array Operand} (hl:xs.length=xs'.toList.length) (hc:∀ p∈xs.zip xs'.toList,aJ p.1 p.2=true)
  (ho:o.op=.makeFunc (.func f) #[] xs') (hr:opE bars env σ (.mfunc (.func f) xs)=some r):OpOK bars κ σ w ((execOp a.eval o).run P w) r:=by
 simp only [opE,Option.bind_eq_some_iff,Option.some.injEq] at hr
 obtain ⟨vs,hvs,rfl⟩:=hr
 obtain ⟨h1,h2⟩:=oQ he hl hc hvs
 exact aL hi (x:=.func (.func f) #[] (xs'.map a.eval)) (by simp [execOp,ho,Instr.makeFunc]) ⟨_,rfl,by simpa using h1⟩ (by simpa [below] using h2)
theorem JW (hi:INV bars κ σ w) (he:ENV κ σ.length env a.tmps) {f:FuncId} {xs:List Opd} {xs':Array Operand} (hl:xs.length=xs'.toList.length) (hc:∀ p∈xs.zip xs'.toList,aJ p.1 p.2=true)
  (ho:o.op=.makeFunc (.func f) xs' #[]) (hr:opE bars env σ (.mbm f xs)=some r):OpOK bars κ σ w ((execOp a.eval o).run P w) r:=by
 simp only [opE,Option.bind_eq_some_iff,Option.some.injEq] at hr
 obtain ⟨vs,hvs,rfl⟩:=hr
 obtain ⟨h1,h2⟩:=oQ he hl hc hvs
 exact aL hi (x:=.func (.func f) (xs'.map a.eval) #[]) (by simp [execOp,ho,Instr.makeFunc]) ⟨_,rfl,by simpa using h1⟩ (by simpa [below] using h2)
theorem FR {t:TypeId} {ms:Array (String×TypeId)} (ht:P.underlying t=some (.interface ms)) (d:Nat):(∀ u v,(Op.equalIn (d+1) t (.iface u v) .nilIface).run P w=.ok false w)∧(Op.equalIn (d+1) t .nilIface .nilIface).run P w=.ok true w:=by
 constructor
 ·intro u v; unfold Op.equalIn; simp [underlying,ht]
 ·unfold Op.equalIn; simp [underlying,ht]
theorem JX {t e:TypeId} (ht:P.underlying t=some (.slice e)) (x:Operand) (neg:Bool) (ad:Option Addr) (n c:Nat):(do eqGuard (if neg then .neq else .eql) t x (.const (.slice none 0 0)) (.slice ad n c) (.slice none 0 0); binOp (if neg then .neq else .eql) t (.slice ad n c) (.slice none 0 0)).run P w=.ok (.bool (ad.isNone != neg)) w:=by
 have h1:(Op.equal t (.slice ad n c) (.slice none 0 0)).run P w=.ok ad.isNone w:=by
  show (Op.equalIn (9999+1) t (.slice ad n c) (.slice none 0 0)).run P w=.ok ad.isNone w
  unfold Op.equalIn
  cases ad<;>simp [underlying,ht]
 cases neg<;>cases ad<;>simp [eqGuard,binOp,h1]
theorem DH {t:TypeId} {ms:Array (String×TypeId)} (ht:P.underlying t=some (.interface ms)) (x:Operand) (neg:Bool):(∀ u v,(do eqGuard (if neg then .neq else .eql) t x (.const .nilIface) (.iface u v) .nilIface; binOp (if neg then .neq else .eql) t (.iface u v) .nilIface).run P w=.ok (.bool neg) w) ∧
  (do eqGuard (if neg then .neq else .eql) t x (.const .nilIface) .nilIface .nilIface; binOp (if neg then .neq else .eql) t .nilIface .nilIface).run P w=.ok (.bool (!neg)) w:=by
 obtain ⟨h1,h2⟩:=FR (w:=w) ht 9999
 have e1:∀ u v,(Op.equal t (.iface u v) .nilIface).run P w=.ok false w:=h1
 have e2:(Op.equal t .nilIface .nilIface).run P w=.ok true w:=h2
 constructor
 ·intro u v; cases neg<;>simp [eqGuard,binOp,e1]
 ·cases neg<;>simp [eqGuard,binOp,e2]
theorem FT (hi:INV bars κ σ w) (he:ENV κ σ.length env a.tmps) {neg:Bool} {x:Opd} {x':Operand} {t rt:TypeId} {ms:Array (String×TypeId)} (hx:aJ x x'=true) (ht:P.underlying t=some (.interface ms))
  (ho:o.op=.binOp (if neg then .neq else .eql) t x' (.const .nilIface) rt) (hr:opE bars env σ (.isnil neg x)=some r):OpOK bars κ σ w ((execOp a.eval o).run P w) r:=by
 simp only [opE] at hr
 split at hr
 ·rename_i u v hv
  cases hr
  obtain ⟨⟨y,h1,-⟩,-⟩:=aA he hx hv
  refine aL hi (x:=.bool neg) ?_ rfl rfl
  have hq:=(DH (P:=P) (w:=w) ht x' neg).1 u y
  simp only [execOp,ho,h1,show a.eval (.const .nilIface)=.nilIface from rfl,Sem.run_bind,hq]
  rfl
 ·rename_i hv
  cases hr
  obtain ⟨h1,-⟩:=aA he hx hv
  simp only [RelV] at h1
  refine aL hi (x:=.bool (!neg)) ?_ rfl rfl
  have hq:=(DH (P:=P) (w:=w) ht x' neg).2
  simp only [execOp,ho,h1,show a.eval (.const .nilIface)=.nilIface from rfl,Sem.run_bind,hq]
  rfl
 ·cases hr
theorem FU (hi:INV bars κ σ w) (he:ENV κ σ.length env a.tmps) {neg:Bool} {x:Opd} {x':Operand} {t e rt:TypeId} (hx:aJ x x'=true) (ht:P.underlying t=some (.slice e))
  (ho:o.op=.binOp (if neg then .neq else .eql) t x' (.const (.slice none 0 0)) rt) (hr:opE bars env σ (.slnil neg x)=some r):OpOK bars κ σ w ((execOp a.eval o).run P w) r:=by
 have go:∀ ad n c,a.eval x'=.slice ad n c→(execOp a.eval o).run P w=.ok (.value (.bool (ad.isNone != neg))) w:=by
  intro ad n c h1
  have hq:=JX (P:=P) (w:=w) ht x' neg ad n c
  simp only [execOp,ho,h1,show a.eval (.const (.slice none 0 0))=.slice none 0 0 from rfl,Sem.run_bind,hq]
  rfl
 simp only [opE] at hr
 split at hr
 ·rename_i ad n c hv
  cases hr
  obtain ⟨h1,-⟩:=aA he hx hv
  simp only [RelV] at h1
  exact aL hi (go _ _ _ h1) rfl rfl
 ·rename_i t' e0 es hv
  cases hr
  obtain ⟨⟨ad,cap,esz,h1,-,-,hE⟩,-⟩:=aA he hx hv
  obtain ⟨b,oo,rfl,-⟩:=hE (by simp)
  have h2:=go _ _ _ h1
  simp only [Option.isNone_some,Bool.false_bne] at h2
  exact aL hi h2 rfl rfl
 ·rename_i id n e0 es hv
  cases hr
  obtain ⟨⟨-,ad,cap,esz,h1,-,hE,-⟩,-⟩:=aA he hx hv
  obtain ⟨b,oo,rfl,-⟩:=hE (by simp)
  have h2:=go _ _ _ h1
  simp only [Option.isNone_some,Bool.false_bne] at h2
  exact aL hi h2 rfl rfl
 ·cases hr
theorem Lv (hi:INV bars κ σ w) (he:ENV κ σ.length env a.tmps) {mx:Bool} {x y:Opd} {x' y':Operand} {ts:Array TypeId} (hx:aJ x x'=true) (hy:aJ y y'=true)
  (ho:o.op=.call { callee:=.builtin (if mx then .max else .min),args:=#[x',y'],argTypes:=ts }) (hr:opE bars env σ (.mm mx x y)=some r):OpOK bars κ σ w ((execOp a.eval o).run P w) r:=by
 simp only [opE] at hr
 split at hr
 ·rename_i m n hu hv
  cases hr
  obtain ⟨h1,-⟩:=aA he hx hu
  obtain ⟨h2,-⟩:=aA he hy hv
  simp only [RelV] at h1 h2
  refine aL hi (x:=.int .i64 (if mx then max m n else min m n)) ?_ rfl rfl
  cases mx
  ·simp [execOp,ho,resolve,invoke,builtin,Builtin.min_,Builtin.min2,h1,h2]
   omega
  ·simp [execOp,ho,resolve,invoke,builtin,Builtin.max_,Builtin.max2,h1,h2]
   omega
 ·cases hr
theorem JY (hi:INV bars κ σ w) (he:ENV κ σ.length env a.tmps) {off k:Nat} {n:Option Nat} {x:Opd} {x':Operand} {t:TypeId} {fs:Array Field} {f:Field} {i:TypeInfo} (hx:aJ x x'=true) (ht:P.underlying t=some (.struct fs)) (hf:fs[k]? = some f) (hfi:P.info? f.type=some i) (hs:i.size=n.getD 1) (ha:wt P f.type n.isSome=true) (hoff:f.offset=off)
  (ho:o.op=.field t x' k) (hr:opE bars env σ (.fld off n x)=some r):OpOK bars κ σ w ((execOp a.eval o).run P w) r:=by
 simp only [opE] at hr
 split at hr
 ·rename_i cs hv
  simp only [Option.bind_eq_some_iff,Option.some.injEq] at hr
  obtain ⟨c,hc,v,hm,rfl⟩:=hr
  obtain ⟨⟨vs,h1,h3,h4⟩,h2⟩:=aA he hx hv
  obtain ⟨hle,rfl⟩:=oO hc
  have hrel:=RelL.take (n.getD 1) (RelL.drop off h3)
  have hb:below.belowAll σ.length ((cs.drop off).take (n.getD 1))=true:=dg fun p hp=>bR (by simpa [below] using h2) (List.mem_of_mem_drop (List.mem_of_mem_take hp))
  have hlen:=h3.length
  simp only [Array.length_toList] at hlen
  unfold wt at ha
  cases hu:P.underlying f.type with
  | none=>rw [hu] at ha; cases ha
  | some d =>
   rw [hu] at ha
   cases n with
   | none =>
    simp only [mkv] at hm
    split at hm
    ·rename_i p hp
     cases hm
     simp only [Option.getD_none] at hp hrel hb hle
     rw [hp] at hrel hb
     obtain ⟨u,l',hx',h5,h6⟩:=hrel
     simp only [RelL] at h6; subst h6
     have hz:vs[off]? = some u:=by
      have:((vs.toList.drop off).take 1)[0]? = some u:=by rw [hx']; rfl
      simpa using this
     refine aL hi (x:=u) ?_ h5 (by simpa [below.belowAll] using hb)
     cases d<;>simp at ha<;>simp [execOp,ho,Instr.field,underlying,ht,hf,h1,asAgg,part,isAgg,hu,hoff,hz]
    ·cases hm
   | some m =>
    simp only [mkv] at hm
    split at hm
    ·cases hm
     have hext:(vs.extract off (off+m)).toList=(vs.toList.drop off).take m:=by simp [Array.toList_extract]
     refine aL hi (x:=.agg (vs.extract off (off+m))) ?_ ⟨_,rfl,by rw [hext]; simpa using hrel,fun v hv=>?_⟩ (by simpa [below] using hb)
     ·simp only [Option.getD_some] at hs
      cases d<;>simp at ha<;>simp [execOp,ho,Instr.field,underlying,ht,hf,h1,asAgg,part,isAgg,hu,hoff,sizeOf,typeInfo,hfi,hs]
     ·rw [hext] at hv
      exact h4 v (List.mem_of_mem_drop (List.mem_of_mem_take hv))
    ·cases hm
 ·cases hr
end
end Go.Ev

namespace Go.Ev
variable [CodeRel]
section
variable {P:Program} {bars:List Nat} {κ:Kn} {σ:Sto} {w:World} {env:Env} {a:Act} {o:Oper} {r:OpR}
theorem jr {t elem:TypeId} {i:TypeInfo} {x ix:Value} {ad:Addr} {n cap:Nat} {k:IntKind} {m:Int} {esz:Nat} (ht:P.underlying t=some (.slice elem)) (hei:P.info? elem=some i) (hs:i.size=esz)
  (hx:x=.slice (some ad) n cap) (hix:ix=.int k m) (h0:0≤m) (h1:m<n):(Instr.indexAt t x ix).run P w=.ok (.pointer (some (ad.add (m.toNat * esz)))) w:=by
 subst hx hix
 simp [Instr.indexAt,asIntOf,underlying,ht,h0,h1,sizeOf,typeInfo,hei,hs]
theorem wv {t elem:TypeId} {i:TypeInfo} {x ix:Value} {ad:Addr} {n:Nat} {k:IntKind} {m:Int} {esz:Nat} (ht:P.underlying t=some (.array n elem)) (hei:P.info? elem=some i) (hs:i.size=esz)
  (hx:x=.pointer (some ad)) (hix:ix=.int k m) (h0:0≤m) (h1:m<n):(Instr.indexAt t x ix).run P w=.ok (.pointer (some (ad.add (m.toNat * esz)))) w:=by
 subst hx hix
 simp [Instr.indexAt,asIntOf,underlying,ht,h0,h1,sizeOf,typeInfo,hei,hs,Instr.sureAddr]
theorem FV {es:List (List PV)} {b oo esz' esz:Nat} {m:Int} {e:List PV} (hE:RelE κ esz' b oo es) (hm:es[m.toNat]? = some e) (hl:e.length=esz) :
  RelV κ (.pe e 0) (.pointer (some ((⟨b,oo,none⟩:Addr).add (m.toNat * esz)))):=by
 obtain ⟨h1,h2⟩:=RelE.get hE hm
 have:esz'=esz:=by omega
 subst this
 exact ⟨b,oo+m.toNat * esz',by rw [dl]; rfl,h2⟩
theorem y5 (hi:INV bars κ σ w) (he:ENV κ σ.length env a.tmps) {arr:Option Nat} {esz:Nat} {x y:Opd} {x' y':Operand} {t elem:TypeId} {i:TypeInfo} (hx:aJ x x'=true) (hy:aJ y y'=true)
  (ht:P.underlying t=some (match arr with|some n=>.array n elem|none=>.slice elem)) (hei:P.info? elem=some i) (hs:i.size=esz)
  (ho:o.op=.indexAddr t x' y') (hr:opE bars env σ (.iaddr arr esz x y)=some r):OpOK bars κ σ w ((execOp a.eval o).run P w) r:=by
 simp only [opE] at hr
 split at hr
 ·rename_i id q m hv hu
  obtain ⟨⟨ad,h1,hge,h1'⟩,h2⟩:=aA he hx hv
  obtain ⟨h3,-⟩:=aA he hy hu
  simp only [RelV] at h3
  split at hr
  ·rename_i n
   split at hr
   ·rename_i hm
    cases hr
    refine aL hi (x:=.pointer (some (ad.add (m.toNat * esz)))) ?_ ⟨_,rfl,hge,fun hg=>?_⟩ (by simpa [below] using h2)
    ·simp [execOp,ho,wv ht hei hs h1 h3 hm.1 hm.2]
    ·have:=h1' hg
     subst this
     rw [dl,Nat.add_assoc]
   ·cases hr
  ·cases hr
 ·rename_i tt es m hv hu
  obtain ⟨⟨ad,cap,esz',h1,hcap,-,hE⟩,h2⟩:=aA he hx hv
  obtain ⟨h3,-⟩:=aA he hy hu
  simp only [RelV] at h3
  split at hr
  ·rename_i hm
   simp only [Option.bind_eq_some_iff] at hr
   obtain ⟨e,hem,hr⟩:=hr
   split at hr
   ·rename_i hel
    cases hr
    obtain ⟨b,oo,rfl,hE'⟩:=hE (by rintro rfl; simp at hem)
    have hlt:=(List.getElem?_eq_some_iff.1 hem).1
    obtain ⟨hm,rfl⟩:=hm
    ·refine aL hi ?_ (FV hE' hem hel) ?_
     ·simp [execOp,ho,jr ht hei hs h1 h3 hm (by omega)]
     ·simp only [below] at h2 ⊢
      exact jF h2 (List.mem_of_getElem? hem)
   ·cases hr
  ·cases hr
 ·rename_i id nn es m hv hu
  obtain ⟨⟨-,ad,cap,esz',h1,hcap,hE,-⟩,h2⟩:=aA he hx hv
  obtain ⟨h3,-⟩:=aA he hy hu
  simp only [RelV] at h3
  split at hr
  ·rename_i hm
   simp only [Option.bind_eq_some_iff] at hr
   obtain ⟨e,hem,hr⟩:=hr
   split at hr
   ·rename_i hel
    cases hr
    obtain ⟨b,oo,rfl,hE'⟩:=hE (by rintro rfl; simp at hem)
    have hlt:=(List.getElem?_eq_some_iff.1 hem).1
    obtain ⟨hm,rfl⟩:=hm
    ·refine aL hi ?_ (FV hE' hem hel) ?_
     ·simp [execOp,ho,jr ht hei hs h1 h3 hm (by omega)]
     ·simp only [below,Bool.and_eq_true] at h2 ⊢
      exact jF h2.2 (List.mem_of_getElem? hem)
   ·cases hr
  ·cases hr
 ·rename_i id ver off len m hv hu
  obtain ⟨⟨hle,ad,cap,h1,hcap,hl⟩,h2⟩:=aA he hx hv
  obtain ⟨h3,-⟩:=aA he hy hu
  simp only [RelV] at h3
  split at hr
  ·rename_i hm
   split at hr
   ·rename_i v k es hsi
    split at hr
    ·rename_i hvk
     obtain ⟨rfl,rfl⟩:=hvk
     cases hr
     obtain ⟨hg,hesz,-⟩:=hi.obs id _ hsi
     obtain ⟨h4,h5⟩:=hl hg (by omega)
     subst h4
     obtain ⟨hm0,hm1,rfl⟩:=hm
     ·refine aL hi (x:=.pointer (some ((⟨(κ.ρ id).1,(κ.ρ id).2+off * κ.esz id,none⟩:Addr).add (m.toNat * k)))) ?_ ⟨hle,_,rfl,fun _=>?_⟩ (by simpa [below] using h2)
      ·simp [execOp,ho,jr ht hei hs h1 h3 hm0 hm1]
      ·rw [dl,hesz,Nat.add_mul]; simp [Nat.add_assoc]
    ·cases hr
   ·rename_i v k es zz hsi
    split at hr
    ·rename_i hvk
     obtain ⟨rfl,rfl⟩:=hvk
     cases hr
     obtain ⟨hg,hesz,-⟩:=hi.obs id _ hsi
     obtain ⟨h4,h5⟩:=hl hg (by omega)
     subst h4
     obtain ⟨hm0,hm1,rfl⟩:=hm
     ·refine aL hi (x:=.pointer (some ((⟨(κ.ρ id).1,(κ.ρ id).2+off * κ.esz id,none⟩:Addr).add (m.toNat * k)))) ?_ ⟨hle,_,rfl,fun _=>?_⟩ (by simpa [below] using h2)
      ·simp [execOp,ho,jr ht hei hs h1 h3 hm0 hm1]
      ·rw [dl,hesz,Nat.add_mul]; simp [Nat.add_assoc]
    ·cases hr
   ·cases hr
  ·cases hr
 ·cases hr
theorem JZ (hi:INV bars κ σ w) (he:ENV κ σ.length env a.tmps) {x y:Opd} {x' y':Operand} {t:TypeId} (hx:aJ x x'=true) (hy:aJ y y'=true) (ht:P.underlying t=some .string)
  (ho:o.op=.index t x' y') (hr:opE bars env σ (.idx x y)=some r):OpOK bars κ σ w ((execOp a.eval o).run P w) r:=by
 simp only [opE] at hr
 split at hr
 ·rename_i s j n hv hu
  split at hr
  ·rename_i hn
   simp only [Option.bind_eq_some_iff,Option.some.injEq] at hr
   obtain ⟨b,hb,rfl⟩:=hr
   obtain ⟨h1,-⟩:=aA he hx hv
   obtain ⟨h3,-⟩:=aA he hy hu
   simp only [RelV] at h1 h3
   exact aL hi (by simp [execOp,ho,Instr.index,underlying,ht,h1,h3,asIntOf,hn,hb]) rfl rfl
  ·cases hr
 ·cases hr
theorem o9 {t elem:TypeId} {i:TypeInfo} {x:Value} {ad:Option Addr} {len cap:Nat} {esz:Nat} {lo hi mx:Option Value} {l h m:Nat} (ht:P.underlying t=some (.slice elem)) (hei:P.info? elem=some i) (hs:i.size=esz)
  (hx:x=.slice ad len cap) (hlo:lo=none∧l=0∨lo=some (.int .i64 l)) (hhi:hi=none∧h=len∧mx=none∨hi=some (.int .i64 h)) (hmx:mx=none∧m=cap∨mx=some (.int .i64 m)) (h1:l≤h) (h2:h≤m) (h3:m≤cap) :
  (Instr.sliceAt t x lo hi mx).run P w=.ok (.slice (if m=l then ad else ad.map (·.add (l * esz))) (h - l) (m - l)) w:=by
 subst hx
 have hb:(Instr.sliceBounds true len cap lo hi mx).run P w=.ok (l,h,m) w:=by
  have e1:((l:Int)≤h):=by omega
  have e2:((h:Int)≤m):=by omega
  have e3:((m:Int)≤cap):=by omega
  rcases hmx with ⟨rfl,rfl⟩|rfl<;>rcases hhi with ⟨rfl,rfl,hh⟩|rfl<;>rcases hlo with ⟨rfl,rfl⟩|rfl <;>
   first
    | (simp at hh; done)
    | (simp [Instr.sliceBounds,Instr.sliceBound,asIntOf,e1,e2,e3,h1,h2,h3]; done)
    | (simp [Instr.sliceBounds,Instr.sliceBound,asIntOf,e1,e2,e3,h1,h2,h3]; intros; omega)
 simp [Instr.sliceAt,Instr.slice,underlying,ht,hb,sizeOf,typeInfo,hei,hs]
def ww:Option Opd→Option Operand→Bool
 | none,none=>true
 | some x,some y=>aJ x y
 | _,_=>false
theorem AP (he:ENV κ σ.length env a.tmps) {x:Option Opd} {y:Option Operand} {v:Option PV} (hc:ww x y=true) (hv:evo env x=some v) :
  (v=none∧y.map a.eval=none)∨∃ p u,v=some p∧y.map a.eval=some u∧RelV κ p u:=by
 cases x with
 | none =>
  cases y with
  | none=>simp [evo] at hv; exact .inl ⟨hv.symm,rfl⟩
  | some y=>simp [ww] at hc
 | some x =>
  cases y with
  | none=>simp [ww] at hc
  | some y =>
   simp only [evo,Option.bind_eq_some_iff,Option.some.injEq] at hv
   obtain ⟨p,hp,rfl⟩:=hv
   exact .inr ⟨p,_,rfl,rfl,(aA he hc hp).1⟩
theorem AQ {d:PV} {v:Option PV} {u:Option Value} {n:Int} (h:(v=none∧u=none)∨∃ p x,v=some p∧u=some x∧RelV κ p x) (hn:v.getD d=.k (.int .i64 n)):(v=none∧u=none∧d=.k (.int .i64 n))∨u=some (.int .i64 n):=by
 rcases h with ⟨rfl,rfl⟩|⟨p,x,rfl,rfl,hr⟩
 ·exact .inl ⟨rfl,rfl,hn⟩
 ·simp at hn; subst hn; simp only [RelV] at hr; subst hr; exact .inr rfl
theorem RelE.part {esz b oo:Nat} {es:List (List PV)} (hE:RelE κ esz b oo es) (l n:Nat):RelE κ esz b (oo+l * esz) ((es.drop l).take n):=RelE.take n (RelE.drop l hE)
theorem mG (hi:INV bars κ σ w) {t elem:TypeId} {i:TypeInfo} {x:Value} {es:List (List PV)} {tt:Bool} {lo hi' mx:Option Value} {l h:Nat} {m:Option Nat} {esz:Nat} (ht:P.underlying t=some (.slice elem)) (hei:P.info? elem=some i) (hs:i.size=esz)
  (hx:∃ ad cap esz',x=.slice ad es.length cap∧es.length≤cap∧(tt=true→cap=es.length)∧(es≠[]→∃ b o,ad=some ⟨b,o,none⟩∧RelE κ esz' b o es)) (hall:bV esz es=true)
  (hlo:lo=none∧l=0∨lo=some (.int .i64 l)) (hhi:hi'=none∧h=es.length∧mx=none∨hi'=some (.int .i64 h)) (hmx:mx=none∧m=none∨mx=some (.int .i64 h)∧m=some h) (h1:l≤h) (h2:h≤es.length) :
  ∃ y,(Instr.sliceAt t x lo hi' mx).run P w=.ok y w∧RelV κ (.sl (match m with|none=>tt && decide (h=es.length)|some _=>true) ((es.drop l).take (h - l))) y:=by
 obtain ⟨ad,cap,esz',hx,hcap,htt,hE⟩:=hx
 have hlen:((es.drop l).take (h - l)).length=h - l:=by simp; omega
 obtain ⟨mm,hmm,hmle,hmge⟩:∃ mm,(mx=none∧mm=cap∨mx=some (.int .i64 mm))∧mm≤cap∧h≤mm:=by
  rcases hmx with ⟨rfl,_⟩|⟨rfl,_⟩
  ·exact ⟨cap,.inl ⟨rfl,rfl⟩,Nat.le_refl _,by omega⟩
  ·exact ⟨h,.inr rfl,by omega,Nat.le_refl _⟩
 refine ⟨_,o9 ht hei hs hx hlo hhi hmm h1 hmge hmle,?_⟩
 refine ⟨_,mm - l,esz',by rw [hlen],by rw [hlen]; omega,fun htrue=>?_,fun hne=>?_⟩
 ·rw [hlen]
  rcases hmx with ⟨rfl,rfl⟩|⟨rfl,rfl⟩
  ·simp only [Bool.and_eq_true,decide_eq_true_eq] at htrue
   have:=htt htrue.1
   rcases hmm with ⟨_,rfl⟩|hmm
   ·omega
   ·cases hmm
  ·rcases hmm with ⟨hmm,_⟩|hmm
   ·cases hmm
   ·simp at hmm; omega
 ·have hne':es≠[]:=by rintro rfl; simp at hne
  obtain ⟨b,oo,rfl,hE'⟩:=hE hne'
  have hlt:l<h:=by
   rcases Nat.lt_or_ge l h with h'|h'
   ·exact h'
   ·exact absurd (by rw [show h - l=0 by omega]; simp) hne
  have hesz:esz'=esz:=by
   cases es with
   | nil=>exact absurd rfl hne'
   | cons e r =>
    simp only [RelE] at hE'
    simp only [bV,Bool.and_eq_true,decide_eq_true_eq] at hall
    omega
  subst hesz
  refine ⟨b,oo+l * esz',?_,hE'.part l (h - l)⟩
  rw [if_neg (by omega)]
  simp [dl]
theorem xF {t:TypeId} {x:Value} {s:ByteArray} {lo hi:Option Value} {l h:Nat} (ht:P.underlying t=some .string) (hx:x=.string s)
  (hlo:lo=none∧l=0∨lo=some (.int .i64 l)) (hhi:hi=none∧h=s.size∨hi=some (.int .i64 h)) (h1:l≤h) (h2:h≤s.size) :
  (Instr.sliceAt t x lo hi none).run P w=.ok (.string (s.extract l h)) w:=by
 subst hx
 have hb:(Instr.sliceBounds false s.size s.size lo hi none).run P w=.ok (l,h,s.size) w:=by
  have e1:((l:Int)≤h):=by omega
  have e2:((h:Int)≤s.size):=by omega
  rcases hhi with ⟨rfl,rfl⟩|rfl<;>rcases hlo with ⟨rfl,rfl⟩|rfl <;>
   first
    | (simp [Instr.sliceBounds,Instr.sliceBound,asIntOf,e1,e2,h1,h2]; done)
    | (simp [Instr.sliceBounds,Instr.sliceBound,asIntOf,e1,e2,h1,h2]; intros; omega)
 simp [Instr.sliceAt,Instr.slice,underlying,ht,hb]
theorem FX (hi:INV bars κ σ w) (he:ENV κ σ.length env a.tmps) {esz:Nat} {x:Opd} {lo hi' mx:Option Opd} {x':Operand} {lo' hi'' mx':Option Operand} {t:TypeId} (hx:aJ x x'=true) (hlo:ww lo lo'=true) (hhi:ww hi' hi''=true) (hmx:ww mx mx'=true)
  (ht:if esz=0 then P.underlying t=some .string else ∃ elem i,P.underlying t=some (.slice elem)∧P.info? elem=some i∧i.size=esz)
  (ho:o.op=.slice t x' lo' hi'' mx') (hr:opE bars env σ (.slice esz x lo hi' mx)=some r):OpOK bars κ σ w ((execOp a.eval o).run P w) r:=by
 simp only [opE,Option.bind_eq_some_iff,Option.some.injEq] at hr
 obtain ⟨v,hv,l,hl,h,hh,m,hm,rr,hrr,rfl⟩:=hr
 obtain ⟨h1,h2⟩:=aA he hx hv
 have bl:=AP he hlo hl
 have bh:=AP he hhi hh
 have bm:=AP he hmx hm
 have fin:∀ {y:Value},(Instr.sliceAt t (a.eval x') (lo'.map a.eval) (hi''.map a.eval) (mx'.map a.eval)).run P w=.ok y w→RelV κ rr y→below σ.length rr=true→OpOK bars κ σ w ((execOp a.eval o).run P w) (.val rr σ):=by
  intro y h1 h2 h3
  exact aL hi (by simp [execOp,ho,h1]) h2 h3
 have lo0:∀ {n:Int},l.getD (.i 0)=.k (.int .i64 n)→0≤n→(lo'.map a.eval=none∧n.toNat=0∨lo'.map a.eval=some (.int .i64 (n.toNat:Int))):=by
  intro n hn h0
  rcases AQ bl hn with ⟨_,hu,hd⟩|hu
  ·simp at hd; exact .inl ⟨hu,by omega⟩
  ·exact .inr (by rw [hu,Int.toNat_of_nonneg h0])
 have hi0:∀ {n:Int} {len:Nat},h.getD (.i len)=.k (.int .i64 n)→0≤n→(h=none∧hi''.map a.eval=none∧n.toNat=len)∨hi''.map a.eval=some (.int .i64 (n.toNat:Int)):=by
  intro n len hn h0
  rcases AQ bh hn with ⟨hno,hu,hd⟩|hu
  ·simp at hd; exact .inl ⟨hno,hu,by omega⟩
  ·exact .inr (by rw [hu,Int.toNat_of_nonneg h0])
 unfold rD at hrr
 split at hrr
 ·rename_i s ll hll
  split at hrr
  ·rename_i hhv hhe
   split at hrr
   ·rename_i hc
    obtain ⟨c1,c2,c3,rfl⟩:=hc
    cases hrr
    simp only [if_true] at ht
    simp only [RelV] at h1
    have bm':mx'.map a.eval=none:=by
     rcases bm with ⟨_,hu⟩|⟨p,u,hp,_⟩
     ·exact hu
     ·cases hp
    refine fin (y:=.string (s.extract ll.toNat _)) ?_ rfl rfl
    rw [bm']
    exact xF ht h1 (lo0 hll c1) (by rcases hi0 hhe (by omega) with ⟨_,hu,hd⟩|hu; exact .inl ⟨hu,hd⟩; exact .inr hu) (by omega) (by omega)
   ·cases hrr
  ·cases hrr
 ·rename_i tt es ll hll
  split at hrr
  ·rename_i hhv hhe
   split at hrr
   ·rename_i hc
    obtain ⟨c1,c2,c3,c4,c5⟩:=hc
    rw [if_neg (by omega)] at ht
    obtain ⟨elem,i,ht1,ht2,ht3⟩:=ht
    have hbel:∀ n k,below.belowEs σ.length ((es.drop n).take k)=true:=fun n k=>gK fun e he=>jF (by simpa [below] using h2) (List.mem_of_mem_drop (List.mem_of_mem_take he))
    split at hrr
    ·cases hrr
     have bm':mx'.map a.eval=none:=by
      rcases bm with ⟨_,hu⟩|⟨p,u,hp,_⟩
      ·exact hu
      ·cases hp
     obtain ⟨y,hy1,hy2⟩:=mG (κ:=κ) (w:=w) hi ht1 ht2 ht3 h1 c4 (lo0 hll c1) (by rcases hi0 hhe (by omega) with ⟨_,hu,hd⟩|hu; exact .inl ⟨hu,hd,bm'⟩; exact .inr hu) (m:=none) (.inl ⟨bm',rfl⟩) (l:=ll.toNat) (by omega) (by omega)
     exact fin hy1 hy2 (by simpa [below] using hbel _ _)
    ·rename_i mm
     split at hrr
     ·rename_i hmh
      obtain ⟨rfl,hsome⟩:=hmh
      cases hrr
      have bm':mx'.map a.eval=some (.int .i64 (mm.toNat:Int)):=by
       rcases bm with ⟨hp,_⟩|⟨p,u,hp,hu,hrel⟩
       ·cases hp
       ·cases hp; simp only [RelV] at hrel; rw [hu,hrel,Int.toNat_of_nonneg (by omega)]
      obtain ⟨y,hy1,hy2⟩:=mG (κ:=κ) (w:=w) hi ht1 ht2 ht3 h1 c4 (lo0 hll c1) (by rcases hi0 hhe (by omega) with ⟨hno,hu,hd⟩|hu; (rw [hno] at hsome; cases hsome); exact .inr hu) (m:=some mm.toNat) (.inr ⟨bm',rfl⟩) (l:=ll.toNat) (by omega) (by omega)
      exact fin hy1 hy2 (by simpa [below] using hbel _ _)
     ·cases hrr
    ·cases hrr
   ·cases hrr
  ·cases hrr
 ·rename_i id n es ll hll
  split at hrr
  ·rename_i hhv hhe
   split at hrr
   ·rename_i hc
    obtain ⟨c1,c2,c3,c4,c5⟩:=hc
    rw [if_neg (by omega)] at ht
    obtain ⟨elem,i,ht1,ht2,ht3⟩:=ht
    simp only [below,Bool.and_eq_true,decide_eq_true_eq] at h2
    have hbel:∀ n k,below.belowEs σ.length ((es.drop n).take k)=true:=fun n k=>gK fun e he=>jF h2.2 (List.mem_of_mem_drop (List.mem_of_mem_take he))
    obtain ⟨hng,ad,cap,esz',hx1,hx2,hx3,hx4⟩:=h1
    have h1':∃ ad cap esz',a.eval x'=.slice ad es.length cap∧es.length≤cap∧(false=true→cap=es.length)∧(es≠[]→∃ b o,ad=some ⟨b,o,none⟩∧RelE κ esz' b o es):=⟨ad,cap,esz',hx1,hx2,by simp,hx3⟩
    split at hrr
    ·rename_i k mm hsi
     have bm':mx'.map a.eval=none:=by
      rcases bm with ⟨_,hu⟩|⟨p,u,hp,_⟩
      ·exact hu
      ·cases hp
     split at hrr
     ·rename_i hmk
      obtain ⟨hfull,rfl⟩:=hmk
      cases hrr
      have hrun:=o9 (P:=P) (w:=w) (m:=cap) ht1 ht2 ht3 hx1 (lo0 hll c1) (by rcases hi0 hhe (by omega) with ⟨_,hu,hd⟩|hu; exact .inl ⟨hu,hd,bm'⟩; exact .inr hu) (.inl ⟨bm',rfl⟩) (l:=ll.toNat) (by omega) (by omega) (Nat.le_refl _)
      have hdl:(es.drop ll.toNat).length=hhv.toNat - ll.toNat:=by simp; omega
      refine fin hrun ⟨hng,_,cap - ll.toNat,k,by rw [hdl],by rw [hdl]; omega,fun hne=>?_,fun hg=>?_⟩ (by simp only [below,Bool.and_eq_true,decide_eq_true_eq]; exact ⟨h2.1,by have:=hbel ll.toNat es.length; rwa [List.take_of_length_le (by simp)] at this⟩)
      ·have hne':es≠[]:=by rintro rfl; simp at hne
       obtain ⟨b,oo,rfl,hE⟩:=hx3 hne'
       have hesz:esz'=k:=by
        cases es with
        | nil=>exact absurd rfl hne'
        | cons e r =>
         simp only [RelE] at hE
         simp only [bV,Bool.and_eq_true,decide_eq_true_eq] at c4
         omega
       subst hesz
       have:ll.toNat<es.length:=by
        rcases Nat.lt_or_ge ll.toNat es.length with h|h
        ·exact h
        ·exact absurd (List.drop_eq_nil_of_le h) hne
       exact ⟨b,oo+ll.toNat * esz',by rw [if_neg (by omega)]; simp [dl],RelE.drop _ hE⟩
      ·have hl:=hx4 hg
       unfold nN at hl ⊢
       rw [hdl]
       split
       ·rename_i hnone; rw [hnone] at hl; simp only at hl; omega
       ·rename_i b e f hsome
        rw [hsome] at hl
        simp only at hl
        obtain ⟨hf,hcap,oo,had,hoe⟩:=hl
        obtain ⟨hgen,hkesz,-⟩:=hi.obs id _ hsi
        refine ⟨hf,by omega,oo+ll.toNat * k,?_,?_⟩
        ·rw [if_neg (by omega),had]; simp [dl]
        ·rw [hkesz] at hoe ⊢
         rw [← hoe,Nat.add_assoc,← Nat.add_mul]
         congr 2; omega
     ·cases hrr
      obtain ⟨y,hy1,hy2⟩:=mG (κ:=κ) (w:=w) (tt:=false) hi ht1 ht2 ht3 h1' c4 (lo0 hll c1) (by rcases hi0 hhe (by omega) with ⟨_,hu,hd⟩|hu; exact .inl ⟨hu,hd,bm'⟩; exact .inr hu) (m:=none) (.inl ⟨bm',rfl⟩) (l:=ll.toNat) (by omega) (by omega)
      exact fin hy1 (by simpa using hy2) (by simpa [below] using hbel _ _)
    ·rename_i mm
     split at hrr
     ·rename_i hmh
      obtain ⟨rfl,hsome⟩:=hmh
      cases hrr
      have bm':mx'.map a.eval=some (.int .i64 (mm.toNat:Int)):=by
       rcases bm with ⟨hp,_⟩|⟨p,u,hp,hu,hrel⟩
       ·cases hp
       ·cases hp; simp only [RelV] at hrel; rw [hu,hrel,Int.toNat_of_nonneg (by omega)]
      obtain ⟨y,hy1,hy2⟩:=mG (κ:=κ) (w:=w) (tt:=false) hi ht1 ht2 ht3 h1' c4 (lo0 hll c1) (by rcases hi0 hhe (by omega) with ⟨hno,hu,hd⟩|hu; (rw [hno] at hsome; cases hsome); exact .inr hu) (m:=some mm.toNat) (.inr ⟨bm',rfl⟩) (l:=ll.toNat) (by omega) (by omega)
      exact fin hy1 hy2 (by simpa [below] using hbel _ _)
     ·cases hrr
    ·cases hrr
   ·cases hrr
  ·cases hrr
 ·rename_i id ver off len ll hll
  split at hrr
  ·rename_i hhv vv k es hhe hsi
   split at hrr
   ·rename_i hc
    obtain ⟨c1,c2,c3,rfl,c5⟩:=hc
    cases hrr
    rw [if_neg (by omega)] at ht
    obtain ⟨elem,i,ht1,ht2,ht3⟩:=ht
    obtain ⟨hle,ad,cap,hx1,hx2,hx3⟩:=h1
    have bm':mx'.map a.eval=none:=by
     rcases bm with ⟨_,hu⟩|⟨p,u,hp,_⟩
     ·exact hu
     ·cases hp
    have hrun:=o9 (P:=P) (w:=w) (m:=cap) ht1 ht2 ht3 hx1 (lo0 hll c1) (by rcases hi0 hhe (by omega) with ⟨_,hu,hd⟩|hu; exact .inl ⟨hu,hd,bm'⟩; exact .inr hu) (.inl ⟨bm',rfl⟩) (l:=ll.toNat) (by omega) (by omega) (Nat.le_refl _)
    refine fin hrun ⟨hle,_,_,rfl,by omega,fun hg hcp=>?_⟩ (by simpa [below] using h2)
    obtain ⟨e1,e2⟩:=hx3 hg (by omega)
    obtain ⟨-,hkesz,-⟩:=hi.obs id _ hsi
    rw [if_neg (by omega),e1]
    refine ⟨by simp [dl,hkesz,Nat.add_mul,Nat.add_assoc],?_⟩
    rwa [show off+ll.toNat+(cap - ll.toNat)=off+cap by omega]
   ·cases hrr
  ·cases hrr
 ·cases hrr
end
end Go.Ev

namespace Go.Ev
variable [CodeRel]
theorem RelE.list {κ:Kn} {k b:Nat}:∀ {es:List (List PV)} {o:Nat},RelE κ k b o es→∃ vs:List Value,RelL κ es.flatten vs∧(∀ v∈vs,v.oneCell'=true)∧∀ j v,vs[j]? = some v→κ.M b (o+j)=some v
 | [],o,_=>⟨[],rfl,by simp,by simp⟩
 | e::r,o,h=>by
  simp only [RelE] at h
  obtain ⟨us,h1,h2,h3⟩:=RelM.list h.2.1
  obtain ⟨vs,h4,h5,h6⟩:=RelE.list h.2.2
  refine ⟨us++vs,RelL.append h1 h4,fun v hv=>(List.mem_append.1 hv).elim (h2 v) (h5 v),fun j v hj=>?_⟩
  have hl:=h1.length
  rcases Nat.lt_or_ge j us.length with hlt|hge
  ·rw [List.getElem?_append_left hlt] at hj; exact h3 j v hj
  ·rw [List.getElem?_append_right hge] at hj
   have:=h6 _ v hj
   rwa [show o+k+(j - us.length)=o+j by omega] at this
theorem RelM.of {κ:Kn} {b:Nat}:∀ {l:List PV} {o:Nat} {vs:List Value},RelL κ l vs→(∀ j v,vs[j]? = some v→κ.M b (o+j)=some v∧v.oneCell'=true)→RelM κ b o l
 | [],_,_,_,_=>by simp [RelM]
 | p::r,o,vs,h,hm=>by
  simp only [RelL] at h
  obtain ⟨v,l',rfl,hv,hl⟩:=h
  simp only [RelM]
  have h0:=hm 0 v rfl
  exact ⟨⟨v,h0.1,h0.2,hv⟩,RelM.of hl fun j u hj=>by have:=hm (j+1) u (by simpa using hj); rwa [show o+(j+1)=o+1+j by omega] at this⟩
theorem RelL.split {κ:Kn}:∀ {l m:List PV} {x:List Value},RelL κ (l++m) x→RelL κ l (x.take l.length)∧RelL κ m (x.drop l.length)
 | [],m,x,h=>⟨by simp [RelL],by simpa using h⟩
 | p::r,m,x,h=>by
  simp only [List.cons_append,RelL] at h
  obtain ⟨v,l',rfl,hv,hl⟩:=h
  obtain ⟨h1,h2⟩:=RelL.split hl
  exact ⟨⟨v,_,rfl,hv,h1⟩,h2⟩
theorem RelE.of {κ:Kn} {k b:Nat}:∀ {es:List (List PV)} {o:Nat} {vs:List Value},(∀ e∈es,e.length=k)→RelL κ es.flatten vs→(∀ j v,vs[j]? = some v→κ.M b (o+j)=some v∧v.oneCell'=true)→RelE κ k b o es
 | [],_,_,_,_,_=>by simp [RelE]
 | e::r,o,vs,hk,h,hm=>by
  rw [List.flatten_cons] at h
  obtain ⟨h1,h2⟩:=RelL.split h
  simp only [RelE]
  have he:=hk e (by simp)
  refine ⟨he,RelM.of h1 fun j v hj=>hm j v ?_,RelE.of (fun e he=>hk e (by simp [he])) h2 fun j v hj=>?_⟩
  ·rw [List.getElem?_take] at hj
   split at hj
   ·exact hj
   ·cases hj
  ·rw [List.getElem?_drop] at hj
   have:=hm _ v hj
   rwa [show o+(e.length+j)=o+k+j by omega] at this
section
variable {P:Program} {bars:List Nat} {κ:Kn} {σ:Sto} {w:World} {env:Env} {a:Act} {o:Oper} {r:OpR}
theorem se {k:Nat} {t:TypeId} (ht:∃ e',P.underlying t=some (.slice e')) {ad:Option Addr} {n c:Nat} {news:List Value} (hl:news.length=n * k)
  (h:n≠0→∃ b,ad=some b∧∀ j u,news[j]? = some u→w.cell? (b.add j)=some u) (h1:∀ u∈news,u.oneCell'=true):Src P k t (.slice ad n c) n news w:=by
 by_cases hn:n=0
 ·subst hn
  have:news=[]:=List.eq_nil_of_length_eq_zero (by simpa using hl)
  subst this
  have hc:∀ w:World,(Builtin.firstCells k 0 (.slice ad 0 c)).run P w=.ok #[] w:=by
   intro w
   cases ad with
   | none=>exact run_firstCells_none w k 0 0 c
   | some b=>exact run_firstCells_some w k 0 b 0 c [] (by simp) (by simp)
  exact ⟨.inl ht,fun _=>rfl,hc w,hc w.drew,hl,h1⟩
 ·obtain ⟨b,rfl,hb⟩:=h hn
  exact ⟨.inl ht,fun _=>rfl,run_firstCells_some w k n b n c news hl hb,run_firstCells_some w.drew k n b n c news hl (by simpa using hb),hl,h1⟩
theorem xG (hi:INV bars κ σ w) {k:Nat} {t:TypeId} (ht:∃ e',P.underlying t=some (.slice e')) {y:PV} {x:Value} {ys:List (List PV)} (h:RelV κ y x) (he:df σ y=some ys) (hall:bV k ys=true) :
  ∃ ad cap news,x=.slice ad ys.length cap∧ys.length≤cap∧Src P k t x ys.length news w∧RelL κ ys.flatten news:=by
 have hlen:=gz hall
 have pers:∀ {ad:Option Addr} {cap esz':Nat} {es:List (List PV)},bV k es=true→(es≠[]→∃ b o,ad=some ⟨b,o,none⟩∧RelE κ esz' b o es)→∃ news,Src P k t (.slice ad es.length cap) es.length news w∧RelL κ es.flatten news:=by
  intro ad cap esz' es hall hE
  by_cases hne:es=[]
  ·subst hne
   exact ⟨[],se ht (by simp) (by simp) (by simp),rfl⟩
  ·obtain ⟨b,oo,rfl,hE'⟩:=hE hne
   obtain ⟨news,h1,h2,h3⟩:=RelE.list hE'
   refine ⟨news,se ht ?_ (fun _=>⟨_,rfl,fun j u hj=>?_⟩) h2,h1⟩
   ·rw [← h1.length,qi (gz hall)]
   ·rw [dl]; exact hi.mem _ _ _ (h3 j u hj)
 unfold df at he
 split at he
 ·rename_i t' es
  cases he
  obtain ⟨ad,cap,esz',rfl,hc,-,hE⟩:=h
  obtain ⟨news,h1,h2⟩:=pers (cap:=cap) hall hE
  exact ⟨ad,cap,news,rfl,hc,h1,h2⟩
 ·rename_i id n es
  cases he
  obtain ⟨-,ad,cap,esz',rfl,hc,hE,-⟩:=h
  obtain ⟨news,h1,h2⟩:=pers (cap:=cap) hall hE
  exact ⟨ad,cap,news,rfl,hc,h1,h2⟩
 ·rename_i ad cap
  cases he
  simp only [RelV] at h
  subst h
  exact ⟨ad,cap,[],rfl,Nat.zero_le _,se ht (by simp) (by simp) (by simp),rfl⟩
 ·rename_i id ver off len
  split at he
  ·rename_i v kk es hs
   split at he
   ·rename_i hv
    obtain ⟨rfl,hle⟩:=hv
    cases he
    obtain ⟨hg,hk,⟨c,T,hc,hes,hone,pre,post,vs,hcl,hpre,hrel⟩,-⟩:=hi.obs id _ hs
    obtain ⟨-,ad,cap,rfl,hlc,hl⟩:=h
    have hl:=hl hg
    have hn:((es.drop off).take len).length=len:=by simp; omega
    have hes':∀ e∈(es.drop off).take len,e.length=kk:=fun e he=>hes e (List.mem_of_mem_drop (List.mem_of_mem_take he))
    rw [hn]
    by_cases h0:len=0
    ·subst h0
     exact ⟨ad,cap,[],rfl,hlc,se ht (by simp) (by simp) (by simp),by simp [RelL]⟩
    ·have hkk:kk=k:=by
      cases hd:(es.drop off).take len with
      | nil=>rw [hd] at hn; simp at hn; omega
      | cons e r=>rw [← hes' e (by rw [hd]; simp),hlen e (by rw [hd]; simp)]
     subst hkk
     obtain ⟨rfl,-⟩:=hl (by omega)
     have hr:RelL κ ((es.drop off).take len).flatten ((vs.drop (off * kk)).take (len * kk)):=by
      rw [xE len fun e he=>hes e (List.mem_of_mem_drop he),DG off hes]
      exact RelL.take _ (RelL.drop _ hrel)
     refine ⟨_,cap,_,rfl,hlc,se ht ?_ (fun _=>⟨_,rfl,fun j u hj=>?_⟩) (fun u hu=>hone u ?_),hr⟩
     ·rw [← hr.length,qi hes',hn]
     ·rw [dl,bU hc,hk,← Array.getElem?_toList,hcl]
      rw [List.getElem?_take] at hj
      split at hj
      ·rw [List.getElem?_drop] at hj
       have hlt:=(List.getElem?_eq_some_iff.1 hj).1
       rw [List.append_assoc,List.getElem?_append_right (by omega),List.getElem?_append_left (by omega),← hj]
       congr 1; omega
      ·cases hj
     ·rw [hcl]
      have:=List.mem_of_mem_drop (List.mem_of_mem_take hu)
      simp [this]
   ·cases he
  ·cases he
 ·cases he
end
end Go.Ev
