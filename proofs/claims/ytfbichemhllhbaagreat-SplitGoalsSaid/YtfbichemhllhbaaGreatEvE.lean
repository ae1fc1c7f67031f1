/- slices.Sorted over maps.Keys at the seat, by the kit's contracts. -/
import Derived.Test.YtfbichemhllhbaaGreatEvD
import Derived.Shelf.SortM.Plain
import Derived.Shelf.SortM.SortNone
import Derived.Test.YtfbichemhllhbaaGreatProg
import Derived.Lib.SlicesS
import Derived.Test.YtfbichemhllhbaaGreatEvA
set_option linter.unnecessarySimpa false
set_option linter.unusedVariables false
set_option linter.unusedSimpArgs false
set_option linter.unusedSectionVars false
namespace Go.Proofs
open Go.RowKit Go.Maps Go.Sort Go.Shelf
def Tryz.keysA_ren:Go.Shelf.Ren:=⟨fun|7=>206|10=>235|n=>n,fun|23=>232|26=>3|3=>4|28=>235|0=>0|27=>234|33=>180|4=>4|n=>n,fun|n=>n⟩
theorem Tryz.keysA:Go.Proofs.SlLaysZI.n7 Tryz.prog Tryz.keysA_ren :=
 { mixed:=by kernel_rfl,
   f7:=⟨Tryz.f206.name,by decide,Tryz.func206.trans (congrArg some (by kernel_rfl))⟩,
   f10:=⟨Tryz.f235.name,by decide,Tryz.func235.trans (congrArg some (by kernel_rfl))⟩,
   t0:=Tryz.underlying0,
   a0:=Tryz.isAgg0,
   z0:=Tryz.sizeOf0,
   v0:=Tryz.zeroValue0,
   t4:=Tryz.underlying4,
   a4:=Tryz.isAgg4,
   z4:=Tryz.sizeOf4,
   v4:=Tryz.zeroValue4,
   t23:=Tryz.underlying232,
   a23:=Tryz.isAgg232,
   z23:=Tryz.sizeOf232,
   v23:=Tryz.zeroValue232,
   t26:=Tryz.underlying3,
   a26:=Tryz.isAgg3,
   z26:=Tryz.sizeOf3,
   v26:=Tryz.zeroValue3,
   t27:=Tryz.underlying234,
   a27:=Tryz.isAgg234,
   z27:=Tryz.sizeOf234,
   v27:=Tryz.zeroValue234,
   t28:=Tryz.underlying235,
   a28:=Tryz.isAgg235,
   z28:=Tryz.sizeOf235,
   v28:=Tryz.zeroValue235,
   t33:=Tryz.underlying180,
   a33:=Tryz.isAgg180,
   z33:=Tryz.sizeOf180,
   v33:=Tryz.zeroValue180 }
def Tryz.sortedA_ren:Go.Shelf.Ren:=⟨fun|6=>205|8=>233|9=>234|11=>250|13=>252|12=>251|23=>267|24=>268|14=>258|15=>259|16=>260|17=>261|18=>262|19=>263|20=>264|21=>265|22=>266|25=>277|26=>278|27=>279|28=>280|29=>281|30=>282|31=>288|n=>n,fun|26=>3|28=>235|24=>70|0=>0|3=>3|37=>277|48=>295|50=>297|4=>4|40=>288|39=>287|45=>183|5=>5|9=>9|51=>301|55=>199|57=>314|58=>55|33=>180|n=>n,fun|n=>n⟩
theorem Tryz.sortedA:Go.Proofs.SlLaysZI.n6 Tryz.prog Tryz.sortedA_ren :=
 { mixed:=by kernel_rfl,
   f6:=⟨Tryz.f205.name,by decide,Tryz.func205.trans (congrArg some (by kernel_rfl))⟩,
   f8:=⟨Tryz.f233.name,by decide,Tryz.func233.trans (congrArg some (by kernel_rfl))⟩,
   f11:=⟨Tryz.f250.name,by decide,Tryz.func250.trans (congrArg some (by kernel_rfl))⟩,
   t0:=Tryz.underlying0,
   a0:=Tryz.isAgg0,
   z0:=Tryz.sizeOf0,
   v0:=Tryz.zeroValue0,
   t24:=Tryz.underlying70,
   a24:=Tryz.isAgg70,
   z24:=Tryz.sizeOf70,
   v24:=Tryz.zeroValue70,
   t26:=Tryz.underlying3,
   a26:=Tryz.isAgg3,
   z26:=Tryz.sizeOf3,
   v26:=Tryz.zeroValue3,
   t28:=Tryz.underlying235,
   a28:=Tryz.isAgg235,
   z28:=Tryz.sizeOf235,
   v28:=Tryz.zeroValue235,
   i26:=by kernel_rfl }
def Tryz.sortA_ren:Go.Shelf.Ren:=⟨fun|5=>234|8=>252|7=>251|19=>267|20=>268|10=>258|11=>259|12=>260|13=>261|14=>262|15=>263|16=>264|17=>265|18=>266|30=>277|31=>278|32=>279|33=>280|34=>281|35=>282|40=>288|n=>n,fun|23=>70|25=>3|3=>3|32=>277|22=>70|0=>0|44=>295|46=>297|4=>4|36=>288|35=>287|41=>183|5=>5|9=>9|53=>301|57=>199|63=>314|64=>55|n=>n,fun|n=>n⟩
theorem Tryz.sortA:Go.Proofs.SlLaysM.n5 Tryz.prog Tryz.sortA_ren :=
 { mixed:=by kernel_rfl,
   f5:=⟨Tryz.f234.name,by decide,Tryz.func234.trans (congrArg some (by kernel_rfl))⟩,
   f7:=⟨Tryz.f251.name,by decide,Tryz.func251.trans (congrArg some (by kernel_rfl))⟩,
   f8:=Tryz.func252.trans (congrArg some (by kernel_rfl)),
   f10:=⟨Tryz.f258.name,by decide,Tryz.func258.trans (congrArg some (by kernel_rfl))⟩,
   f11:=⟨Tryz.f259.name,by decide,Tryz.func259.trans (congrArg some (by kernel_rfl))⟩,
   f12:=⟨Tryz.f260.name,by decide,Tryz.func260.trans (congrArg some (by kernel_rfl))⟩,
   f13:=⟨Tryz.f261.name,by decide,Tryz.func261.trans (congrArg some (by kernel_rfl))⟩,
   f14:=⟨Tryz.f262.name,by decide,Tryz.func262.trans (congrArg some (by kernel_rfl))⟩,
   f15:=⟨Tryz.f263.name,by decide,Tryz.func263.trans (congrArg some (by kernel_rfl))⟩,
   f16:=⟨Tryz.f264.name,by decide,Tryz.func264.trans (congrArg some (by kernel_rfl))⟩,
   f17:=⟨Tryz.f265.name,by decide,Tryz.func265.trans (congrArg some (by kernel_rfl))⟩,
   f18:=⟨Tryz.f266.name,by decide,Tryz.func266.trans (congrArg some (by kernel_rfl))⟩,
   f19:=Tryz.func267.trans (congrArg some (by kernel_rfl)),
   f20:=Tryz.func268.trans (congrArg some (by kernel_rfl)),
   f30:=⟨Tryz.f277.name,by decide,Tryz.func277.trans (congrArg some (by kernel_rfl))⟩,
   f31:=Tryz.func278.trans (congrArg some (by kernel_rfl)),
   f32:=Tryz.func279.trans (congrArg some (by kernel_rfl)),
   f33:=⟨Tryz.f280.name,by decide,Tryz.func280.trans (congrArg some (by kernel_rfl))⟩,
   f34:=⟨Tryz.f281.name,by decide,Tryz.func281.trans (congrArg some (by kernel_rfl))⟩,
   f35:=⟨Tryz.f282.name,by decide,Tryz.func282.trans (congrArg some (by kernel_rfl))⟩,
   f40:=⟨Tryz.f288.name,by decide,Tryz.func288.trans (congrArg some (by kernel_rfl))⟩,
   t0:=Tryz.underlying0,
   a0:=Tryz.isAgg0,
   z0:=Tryz.sizeOf0,
   v0:=Tryz.zeroValue0,
   t3:=Tryz.underlying3,
   a3:=Tryz.isAgg3,
   z3:=Tryz.sizeOf3,
   v3:=Tryz.zeroValue3,
   t4:=Tryz.underlying4,
   a4:=Tryz.isAgg4,
   z4:=Tryz.sizeOf4,
   v4:=Tryz.zeroValue4,
   t5:=Tryz.underlying5,
   a5:=Tryz.isAgg5,
   z5:=Tryz.sizeOf5,
   v5:=Tryz.zeroValue5,
   t9:=Tryz.underlying9,
   a9:=Tryz.isAgg9,
   z9:=Tryz.sizeOf9,
   v9:=Tryz.zeroValue9,
   t22:=Tryz.underlying70,
   a22:=Tryz.isAgg70,
   z22:=Tryz.sizeOf70,
   v22:=Tryz.zeroValue70,
   t23:=Tryz.underlying70,
   a23:=Tryz.isAgg70,
   z23:=Tryz.sizeOf70,
   v23:=Tryz.zeroValue70,
   t25:=Tryz.underlying3,
   a25:=Tryz.isAgg3,
   z25:=Tryz.sizeOf3,
   v25:=Tryz.zeroValue3,
   t32:=Tryz.underlying277,
   a32:=Tryz.isAgg277,
   z32:=Tryz.sizeOf277,
   v32:=Tryz.zeroValue277,
   t35:=Tryz.underlying287,
   a35:=Tryz.isAgg287,
   z35:=Tryz.sizeOf287,
   v35:=Tryz.zeroValue287,
   t36:=Tryz.underlying288,
   a36:=Tryz.isAgg288,
   z36:=Tryz.sizeOf288,
   v36:=Tryz.zeroValue288,
   t41:=Tryz.underlying183,
   a41:=Tryz.isAgg183,
   z41:=Tryz.sizeOf183,
   v41:=Tryz.zeroValue183,
   t44:=Tryz.underlying295,
   a44:=Tryz.isAgg295,
   z44:=Tryz.sizeOf295,
   v44:=Tryz.zeroValue295,
   t46:=Tryz.underlying297,
   a46:=Tryz.isAgg297,
   z46:=Tryz.sizeOf297,
   v46:=Tryz.zeroValue297,
   t53:=Tryz.underlying301,
   a53:=Tryz.isAgg301,
   z53:=Tryz.sizeOf301,
   v53:=Tryz.zeroValue301,
   t57:=Tryz.underlying199,
   a57:=Tryz.isAgg199,
   z57:=Tryz.sizeOf199,
   v57:=Tryz.zeroValue199,
   t63:=Tryz.underlying314,
   a63:=Tryz.isAgg314,
   z63:=Tryz.sizeOf314,
   v63:=Tryz.zeroValue314,
   t64:=Tryz.underlying55,
   a64:=Tryz.isAgg55,
   z64:=Tryz.sizeOf55,
   v64:=Tryz.zeroValue55 }
theorem Tryz.sortsA (m:Nat):AnyZI.SortsIn Tryz.prog Tryz.sortedA_ren Fence.wide m :=
 ⟨fun blk off cap ss W hH hblk hsz=>callsIn_wide.2 (AnyM.slices_Sort_int Tryz.sortA blk off cap ss W hH hblk hsz),
  fun p cap W=>callsIn_wide.2 (AnyM.slices_Sort_int_none Tryz.sortA p cap W)⟩
set_option maxHeartbeats 1000000 in
theorem Tryz.sortedKeys (Bm b:Nat) (T:TypeId) (es:Array MapEntry) (clock:Nat) (ks:List Int) (w:World) (hB:w.heap[Bm]? = some (.cells #[.map (some b)] T (0,0))) (hb:w.heap[b]? = some (.map es clock)) (hk:es.toList.map (·.key)=ks.map (Value.int .i64)) (hnd:ks.Nodup) (hf:∀ n∈ks,Ev.ue n=true) (hl:ks.length≤Ev.LIM) (hbo:Ev.Born es.toList clock) :
  Calls Tryz.prog 205 #[.func (.func 235) #[] #[.pointer (some ⟨Bm,0,none⟩)]] w fun e w'=>∃ v T',e=.returned v∧w'.ownsRow w.heap.size T' 1 v ks.length ((Ev.gp ks).map (Value.int .i64))∧Below w.heap.size w w':=by
 refine (callsIn_wide (n:=5)).1 ?_
 obtain ⟨D0,hown,hp,hs⟩:=Ev.Ii (P:=Tryz.prog) (k:=3) (by kernel_rfl) hk hnd hf hl hbo hb
 have hlim:ks.length≤4294967296:=by simpa [Ev.LIM] using hl
 have hseq:SeqGives Fence.wide 2 Tryz.prog 235 #[.pointer (some ⟨Bm,0,none⟩)] encZ (fun ss=>ss.Perm (intKeys D0)) (Maps.size D0) w :=
  AnyZI.keys_gives (ρ:=Tryz.keysA_ren) { Tryz.keysA with } Fence.wide _ trivial rfl (by omega) Bm b ks.length D0 w (Array.getElem?_eq_some_iff.1 hB).1 (by simp [World.cell?,hB]) hown
 have cS:=AnyZI.sorted_in Tryz.sortedA Fence.wide 5 trivial trivial trivial trivial rfl (by omega) (Tryz.sortsA _) (enters_of Tryz.func234 (by kernel_rfl) rfl) 235 #[.pointer (some ⟨Bm,0,none⟩)] trivial (enters_of Tryz.func235 (by kernel_rfl) rfl) _ _ (by rw [hs]; unfold maxLen; omega) (by rw [hs]; omega) _ hseq
 change CallsIn _ _ Tryz.prog 205 _ _ _ at cS
 refine cS.mono ?_
 rintro e w' ⟨v,ss,rfl,hS,hrow,hnil,hbel⟩
 have hperm:=hS.trans hp
 rw [hperm.length_eq,Ev.zv hperm] at hrow
 exact ⟨v,_,rfl,hrow,hbel⟩
end Go.Proofs
namespace Go.Ev
theorem Gx {P : Program} {f : FuncId} (h : (match P.funcs[f]? with | some fn => fn.body.isSome && !(fn.name == "runtime.NumGoroutine") | none => false) = true) : eO P f := by
 split at h
 ·rename_i fn hf
  simp only [Bool.and_eq_true,Bool.not_eq_true'] at h
  exact ⟨fn,hf,h.1,h.2⟩
 ·cases h
open Go.Proofs
set_option maxRecDepth 100000
theorem Gy (args:List PV) (σ:Sto) (r:Out×Sto) (hr:uY 235 args σ=some r) :
  eO Tryz.prog 205∧∀ bars κ w (xs:Array Value),@INV (CR Tryz.prog) bars κ σ w→RelL κ args xs.toList→below.belowAll σ.length args=true→Calls Tryz.prog 205 xs w (@jG (CR Tryz.prog) bars κ σ w r):=by
 refine Ih (Gx (by kernel_rfl)) ?_ args σ r hr
 intro Bm b T es clock ks w h1 h2 h3 h4 h5 h6 h7
 exact Tryz.sortedKeys Bm b T es clock ks w h1 h2 h3 h4 h5 h6 h7
end Go.Ev

namespace Go.Ev
noncomputable section
@[simp] theorem mi (c:List PV):cells (.agg c)=c:=rfl
@[simp] theorem Ur (v:Value):cells (.k v)=[.k v]:=rfl
@[simp] theorem SN (t:Bool) (e:List (List PV)):cells (.sl t e)=[.sl t e]:=rfl
@[simp] theorem SO (a b:Nat) (e:List (List PV)):cells (.ow a b e)=[.ow a b e]:=rfl
@[simp] theorem SP (a b c d:Nat):cells (.rs a b c d)=[.rs a b c d]:=rfl
@[simp] theorem R9 (a b:Nat):cells (.ptr a b)=[.ptr a b]:=rfl
@[simp] theorem SQ (f:Fn) (l:List PV):cells (.fn f l)=[.fn f l]:=rfl
@[simp] theorem Sa (a:Nat):cells (.map a)=[.map a]:=rfl
@[simp] theorem Qa (t:TypeId) (v:PV):cells (.iface t v)=[.iface t v]:=rfl
@[simp] theorem SS (f:FuncId) (l:List PV):cells (.bm f l)=[.bm f l]:=rfl
@[simp] theorem Sb (a:Nat):cells (.yld a)=[.yld a]:=rfl
@[simp] theorem Us (l:List PV):okc (.agg l)=true:=rfl
@[simp] theorem U2 (t:Bool) (e:List (List PV)):okc (.sl t e)=true:=rfl
@[simp] theorem U3 (a b:Nat) (e:List (List PV)):okc (.ow a b e)=true:=rfl
@[simp] theorem U4 (a b c d:Nat):okc (.rs a b c d)=true:=rfl
@[simp] theorem Ut (a b:Nat):okc (.ptr a b)=true:=rfl
@[simp] theorem U5 (f:Fn) (l:List PV):okc (.fn f l)=true:=rfl
@[simp] theorem U6 (f:FuncId) (l:List PV):okc (.bm f l)=true:=rfl
@[simp] theorem Uu (a:Nat):okc (.yld a)=true:=rfl
@[simp] theorem Uv (a:Nat):okc (.map a)=true:=rfl
@[simp] theorem Sc (a:TypeId) (v:PV):okc (.iface a v)=true:=rfl
@[simp] theorem Uw (k:IntKind) (n:Int):okc (.k (.int k n))=true:=rfl
@[simp] theorem SU (b:Bool):okc (.k (.bool b))=true:=rfl
@[simp] theorem Ux (s:ByteArray):okc (.k (.string s))=true:=rfl
@[simp] theorem SV:okc (.k .nilFunc)=true:=rfl
@[simp] theorem SW:okc (.k .nilIface)=true:=rfl
@[simp] theorem SX:okc (.k (.pointer none))=true:=rfl
@[simp] theorem SY:okc (.k (.map none))=true:=rfl
theorem nr {a b:Bool} (h:a=b):a=b:=by cases a<;>cases b<;>first|rfl|exact h
@[simp] theorem b_k (n:Nat) (v:Value):below n (.k v)=true:=nr (by simp only [below])
@[simp] theorem Vx (n id o:Nat):below n (.ptr id o)=decide (id<n):=nr (by simp only [below])
@[simp] theorem VH (n id a b c:Nat):below n (.pa id a b c)=decide (id<n):=nr (by simp only [below])
@[simp] theorem VI (n:Nat) (cs:List PV) (o:Nat):below n (.pe cs o)=below.belowAll n cs:=nr (by simp only [below])
@[simp] theorem VJ (n:Nat) (t:Bool) (es:List (List PV)):below n (.sl t es)=below.belowEs n es:=nr (by simp only [below])
@[simp] theorem VK (n id m:Nat) (es:List (List PV)):below n (.ow id m es)=(decide (id<n) && below.belowEs n es):=nr (by simp only [below])
@[simp] theorem VL (n id a b c:Nat):below n (.rs id a b c)=decide (id<n):=nr (by simp only [below])
@[simp] theorem Bo (n:Nat) (cs:List PV):below n (.agg cs)=below.belowAll n cs:=nr (by simp only [below])
@[simp] theorem Vy (n:Nat) (cs:List PV):below n (.tup cs)=below.belowAll n cs:=nr (by simp only [below])
@[simp] theorem VM (n:Nat) (f:Fn) (cs:List PV):below n (.fn f cs)=below.belowAll n cs:=nr (by simp only [below])
@[simp] theorem Vz (n id:Nat):below n (.yld id)=decide (id<n):=nr (by simp only [below])
@[simp] theorem VN (n:Nat) (f:FuncId) (cs:List PV):below n (.bm f cs)=below.belowAll n cs:=nr (by simp only [below])
@[simp] theorem VA (n id:Nat):below n (.map id)=decide (id<n):=nr (by simp only [below])
@[simp] theorem Uy (n:Nat) (t:TypeId) (v:PV):below n (.iface t v)=below n v:=nr (by simp only [below])
@[simp] theorem U7 (n:Nat):below.belowAll n []=true:=nr (by simp only [below.belowAll])
@[simp] theorem Uz (n:Nat) (v:PV) (r:List PV):below.belowAll n (v::r)=(below n v && below.belowAll n r):=nr (by simp only [below.belowAll])
@[simp] theorem U8 (n:Nat) (a b:List PV):below.belowAll n (a++b)=(below.belowAll n a && below.belowAll n b):=nr (cE a b)
@[simp] theorem U9 (n:Nat):below.belowEs n []=true:=nr (by simp only [below.belowEs])
@[simp] theorem UA (n:Nat) (v:List PV) (r:List (List PV)):below.belowEs n (v::r)=(below.belowAll n v && below.belowEs n r):=nr (by simp only [below.belowEs])
@[simp] theorem Va (n:Nat) (a b:List (List PV)):below.belowEs n (a++b)=(below.belowEs n a && below.belowEs n b):=nr (eN a b)
class Enc (α:Type) where
 sz:Nat
 cells:α→List PV
 len:∀ x,(cells x).length=sz
 below:∀ n x,below.belowAll n (cells x)=true
 nrm:∀ x,norm.normAll (cells x)=cells x
def ab {α:Type} [Enc α] (l:List α):List (List PV):=l.map Enc.cells
@[simp] theorem uf {α:Type} [Enc α]:ab ([]:List α)=[]:=rfl
@[simp] theorem Qb {α:Type} [Enc α] (l:List α):(ab l).length=l.length:=by simp [ab]
theorem iI {α:Type} [Enc α] (a b:List α):ab (a++b)=ab a++ab b:=by simp [ab]
theorem aB {α:Type} [Enc α] (a:α) (b:List α):ab (a::b)=Enc.cells a::ab b:=rfl
@[simp] theorem SZ {α:Type} [Enc α] (a b:List α):ab a++ab b=ab (a++b):=(iI a b).symm
@[simp] theorem DY {α:Type} [Enc α] (a:List α) (x:α):ab a++[Enc.cells x]=ab (a++[x]):=by rw [iI]; rfl
@[simp] theorem S3 {α:Type} [Enc α] (l:List α) (i:Nat):(ab l)[i]? = (l[i]?).map Enc.cells:=by simp [ab]
@[simp] theorem Sd {α:Type} [Enc α] (l:List α) (i:Nat):(ab l).drop i=ab (l.drop i):=by simp [ab]
@[simp] theorem Se {α:Type} [Enc α] (l:List α) (i:Nat):(ab l).take i=ab (l.take i):=by simp [ab]
@[simp] theorem L2 {α:Type} [Enc α] (l:List α) (i:Nat) (x:α):(ab l).set i (Enc.cells x)=ab (l.set i x):=by simp [ab]
@[simp] theorem zl {α:Type} [Enc α] (n:Nat):∀ l:List α,below.belowEs n (ab l)=true
 | []=>rfl
 | a::r=>by simp [aB,Enc.below,zl n r]
@[simp] theorem eP {α:Type} [Enc α]:∀ l:List α,bV (Enc.sz α) (ab l)=true
 | []=>rfl
 | a::r=>by simp [aB,bV,Enc.len,eP r]
instance:Enc Int:=⟨1,fun n=>[.i n],fun _=>rfl,fun _ _=>rfl,fun _=>rfl⟩
instance:Enc ByteArray:=⟨1,fun s=>[.s s],fun _=>rfl,fun _ _=>rfl,fun _=>rfl⟩
instance:Enc Bool:=⟨1,fun b=>[.b b],fun _=>rfl,fun _ _=>rfl,fun _=>rfl⟩
@[simp] theorem Sf (n:Int):Enc.cells n=[PV.i n]:=rfl
@[simp] theorem Sg (s:ByteArray):Enc.cells s=[PV.s s]:=rfl
@[simp] theorem Qz (b:Bool):Enc.cells b=[PV.b b]:=rfl
@[simp] theorem QA (l:List Int):bV 1 (ab l)=true:=eP l
@[simp] theorem QB (l:List ByteArray):bV 1 (ab l)=true:=eP l
@[simp] theorem Qc (l:List Bool):bV 1 (ab l)=true:=eP l
@[simp] theorem Sh (l:List Int) (n:Int):ab l++[[PV.i n]]=ab (l++[n]):=by rw [iI]; rfl
@[simp] theorem Si (l:List ByteArray) (n:ByteArray):ab l++[[PV.s n]]=ab (l++[n]):=by rw [iI]; rfl
@[simp] theorem QC (l:List Bool) (n:Bool):ab l++[[PV.b n]]=ab (l++[n]):=by rw [iI]; rfl
@[simp] theorem Sj {α:Type} [Enc α] (t:Bool) (l:List α):norm (.sl t (ab l))=.sl false (ab l):=rfl
inductive Tm where
 | mk (op hd n:Int) (args:List Tm)
def Tm.op:Tm→Int|.mk a _ _ _=>a
def Tm.hd:Tm→Int|.mk _ a _ _=>a
def Tm.n:Tm→Int|.mk _ _ a _=>a
def Tm.args:Tm→List Tm|.mk _ _ _ a=>a
@[simp] theorem Tm.op_mk (a b c:Int) (l:List Tm):(Tm.mk a b c l).op=a:=rfl
@[simp] theorem Tm.hd_mk (a b c:Int) (l:List Tm):(Tm.mk a b c l).hd=b:=rfl
@[simp] theorem Tm.n_mk (a b c:Int) (l:List Tm):(Tm.mk a b c l).n=c:=rfl
@[simp] theorem Tm.args_mk (a b c:Int) (l:List Tm):(Tm.mk a b c l).args=l:=rfl
@[simp] theorem Tm.eta:∀ t:Tm,Tm.mk t.op t.hd t.n t.args=t|.mk _ _ _ _=>rfl
mutual
def Tm.cells:Tm→List PV
 | .mk op hd n args=>[.i op,.i hd,.i n,.sl false (Tm.cellsL args)]
def Tm.cellsL:List Tm→List (List PV)
 | []=>[]
 | t::r=>Tm.cells t::Tm.cellsL r
end
theorem Tm.cellsL_map (l:List Tm):Tm.cellsL l=l.map Tm.cells:=by
 induction l with
 | nil=>rfl
 | cons t r ih=>simp [Tm.cellsL,ih]
theorem Tm.ind {p:Tm→Prop} (h:∀ t:Tm,(∀ x∈t.args,p x)→p t):∀ t,p t
 | .mk op hd n args=>h (.mk op hd n args) fun t ht=>Tm.ind h t
termination_by t=>SizeOf.sizeOf t
decreasing_by
 simp at ht
 have:=List.sizeOf_lt_of_mem ht
 simp; omega
mutual
theorem Tm.below_cells (n:Nat):∀ t:Tm,below.belowAll n t.cells=true
 | .mk op hd m args=>by simp [Tm.cells,Tm.below_cellsL n args]
theorem Tm.below_cellsL (n:Nat):∀ l:List Tm,below.belowEs n (Tm.cellsL l)=true
 | []=>rfl
 | t::r=>by simp [Tm.cellsL,Tm.below_cells n t,Tm.below_cellsL n r]
end
instance:Enc Tm:=⟨4,Tm.cells,fun t=>by cases t; rfl,Tm.below_cells,fun t=>by cases t; simp [Tm.cells,norm.normAll,norm]⟩
theorem Tm.cellsL_eq (l:List Tm):Tm.cellsL l=ab l:=Tm.cellsL_map l
@[simp] theorem fK (t:Tm):Enc.cells t=[.i t.op,.i t.hd,.i t.n,.sl false (ab t.args)]:=by
 cases t; rw [← Tm.cellsL_eq]; rfl
def Tm.enc (t:Tm):PV:=.agg (Enc.cells t)
@[simp] theorem Vb (a b c:Int) (l:List Tm) (t:Bool):PV.agg [.i a,.i b,.i c,.sl t (ab l)]=PV.agg [.i a,.i b,.i c,.sl t (ab l)]:=rfl
theorem eI (a b c:Int) (l:List Tm):PV.agg [.i a,.i b,.i c,.sl false (ab l)]=(Tm.mk a b c l).enc:=by simp [Tm.enc]
theorem aa (t:Tm):PV.agg [.i t.op,.i t.hd,.i t.n,.sl false (ab t.args)]=t.enc:=by simp [Tm.enc]
@[simp] theorem S4 (n:Nat) (t:Tm):below n t.enc=true:=by rw [Tm.enc,Bo,Enc.below]
@[simp] theorem UB (t:Tm):norm t.enc=t.enc:=by rw [Tm.enc,norm,Enc.nrm]
@[simp] theorem Vc (t:Tm):okc t.enc=true:=rfl
@[simp] theorem S5 (t:Tm):Go.Ev.cells t.enc=[.i t.op,.i t.hd,.i t.n,.sl false (ab t.args)]:=by rw [Tm.enc,mi,fK]
@[simp] theorem Kh (l:List Tm):bV 4 (ab l)=true:=eP l
@[simp] theorem S6 (l:List Tm) (a b c:Int) (r:List Tm):ab l++[[.i a,.i b,.i c,.sl false (ab r)]]=ab (l++[Tm.mk a b c r]):=by rw [iI,aB,fK]; rfl
def I64 (n:Int):Prop:=-9223372036854775808≤n∧n≤9223372036854775807
theorem ai (n:Int) (h0:-9223372036854775808≤n) (h1:n≤9223372036854775807):IntKind.i64.wrap n=n:=by
 simp [IntKind.wrap,IntKind.bits,IntKind.signed]
 omega
theorem vw {id:Nat} {x:PV} (h:below 0 x=true):∀ bars,aj bars id x=true
 | []=>rfl
 | b::r=>by simp [aj,bk (Nat.zero_le b) x h,vw h r]
@[simp] theorem S7 (bars:List Nat) (id:Nat) (x:PV) (h:below 0 x=true):aj bars id x=true:=vw h bars
theorem eQ {α:Type} {l:List α} {i:Nat} (h:i<l.length):∃ t,l[i]? = some t∧t∈l∧l.drop i=t::l.drop (i+1) :=
 ⟨l[i],List.getElem?_eq_getElem h,List.getElem_mem h,List.drop_eq_getElem_cons h⟩
theorem Gz {α:Type} {l:List α} {i:Nat} (h:l.length≤i):l.drop i=[]:=List.drop_eq_nil_of_le h
theorem ak {σ:Sto} {p:Nat} (l:Sto) (h:p<σ.length):(σ++l)[p]? = σ[p]?:=List.getElem?_append_left h
theorem aq {σ:Sto} {p:Nat} (l:Sto) (x:Ob) (h:p<σ.length):(σ++l).set p x=σ.set p x++l:=List.set_append_left _ _ h
theorem bE {σ:Sto} {p:Nat} {ob:Ob} (h:σ[p]? = some ob):p<σ.length:=(List.getElem?_eq_some_iff.1 h).1
theorem wL {σ:Sto} {p:Nat} {x:Ob} (h:σ[p]? = some x):σ.set p x=σ:=by
 apply List.ext_getElem?
 intro i
 rw [List.getElem?_set]
 split
 ·rename_i hp; subst hp
  rw [h]; simp [(List.getElem?_eq_some_iff.1 h).1]
 ·rfl
@[simp] theorem UC (j:IntKind) (a b:Int):vb .add (.k (.int j a)) (.k (.int j b))=some (.k (.int j (j.wrap (a+b)))):=if_pos rfl
@[simp] theorem UD (j:IntKind) (a b:Int):vb .sub (.k (.int j a)) (.k (.int j b))=some (.k (.int j (j.wrap (a - b)))):=if_pos rfl
@[simp] theorem UE (j:IntKind) (a b:Int):vb .mul (.k (.int j a)) (.k (.int j b))=some (.k (.int j (j.wrap (a * b)))):=if_pos rfl
@[simp] theorem UF (j:IntKind) (a b:Int):vb .eql (.k (.int j a)) (.k (.int j b))=some (.b (decide (a=b))):=if_pos rfl
@[simp] theorem UG (j:IntKind) (a b:Int):vb .neq (.k (.int j a)) (.k (.int j b))=some (.b (!decide (a=b))):=if_pos rfl
@[simp] theorem UH (j:IntKind) (a b:Int):vb .lss (.k (.int j a)) (.k (.int j b))=some (.b (decide (a<b))):=if_pos rfl
@[simp] theorem UI (j:IntKind) (a b:Int):vb .leq (.k (.int j a)) (.k (.int j b))=some (.b (decide (a≤b))):=if_pos rfl
@[simp] theorem UJ (j:IntKind) (a b:Int):vb .gtr (.k (.int j a)) (.k (.int j b))=some (.b (decide (b<a))):=if_pos rfl
@[simp] theorem UK (j:IntKind) (a b:Int):vb .geq (.k (.int j a)) (.k (.int j b))=some (.b (decide (b≤a))):=if_pos rfl
@[simp] theorem UL (j:IntKind) (a b:Int):vb .quo (.k (.int j a)) (.k (.int j b))=if b=0 then none else some (.k (.int j (j.wrap (a.tdiv b)))):=if_pos rfl
@[simp] theorem UM (j:IntKind) (a b:Int):vb .rem (.k (.int j a)) (.k (.int j b))=if b=0 then none else some (.k (.int j (a.tmod b))):=if_pos rfl
theorem Js (a b:ByteArray):(a.toList == b.toList)=decide (a=b):=by
 by_cases h:a=b
 ·subst h; simp
 ·rw [decide_eq_false h]; exact (Go.Lib.bytes_beq_false_iff a b).2 h
@[simp] theorem S8 (a b:ByteArray):vb .eql (.k (.string a)) (.k (.string b))=some (.b (decide (a=b))):=by rw [← Js]; rfl
@[simp] theorem S9 (a b:ByteArray):vb .neq (.k (.string a)) (.k (.string b))=some (.b (!decide (a=b))):=by rw [← Js]; rfl
@[simp] theorem Ta (a b:ByteArray):vb .add (.k (.string a)) (.k (.string b))=if a.size+b.size≤LIM then some (.s (a++b)) else none:=rfl
attribute [simp] bw d7 evs evp evq evo dP ev
section
variable {T:FuncId→Option IF} {H:gk}
def RR (T:FuncId→Option IF) (H:gk):bY:=xcall (az T H)
def E (T:FuncId→Option IF) (H:gk):sJ:=evC (RR T H) fI
def LO (T:FuncId→Option IF) (H:gk) (b:List Nat) (a:IC) (x:Env×Sto):Option (Ex×Env×Sto):=fI (fun x=>E T H b a x.1 x.2) x
theorem aP (b:List Nat) (a:IC) (env:Env) (σ:Sto):LO T H b a (env,σ)=match E T H b a env σ with
  | some (.norm,env',σ')=>LO T H b a (env',σ')
  | r=>r:=by
 unfold LO
 rw [LB]
 cases E T H b a env σ with
 | none=>rfl
 | some y=>obtain ⟨e,y1,y2⟩:=y; cases e<;>rfl
theorem QD (b:List Nat) (env:Env) (σ:Sto):E T H b .skip env σ=some (.norm,env,σ):=rfl
theorem Tb (b:List Nat) (x y:IC) (env:Env) (σ:Sto):E T H b (.seq x y) env σ=match E T H b x env σ with
  | some (.norm,env',σ')=>E T H b y env' σ'
  | r=>r:=rfl
theorem L3 (b:List Nat) (d:Option (List (Nat×Option Nat))) (ops:List IOper) (keep:List Nat) (env:Env) (σ:Sto):E T H b (.reg d ops keep) env σ=match bD (RR T H) b ops env σ with
  | some (.norm,env',σ')=>some (.norm,restrict keep env',σ')
  | some (.pan v,env',σ')=>(match d with
   | none=>some (.pan v,env',σ')
   | some ix=>if ix.length=ops.length+1 then some (.pan v,Eo ops env,σ') else none)
  | r=>if d.isSome then none else r:=rfl
theorem Tc (b:List Nat) (l:List Ps) (c:IC) (env:Env) (σ:Sto):E T H b (.ps l c) env σ=match psE b env σ l with
  | some (env',σ')=>E T H b c env' σ'
  | none=>none:=rfl
theorem Qd (b:List Nat) (l:List Ps) (c:IC) (env:Env) (σ:Sto):E T H b (.psa c l) env σ=match E T H b c env σ with
  | some (.norm,env',σ')=>(match psE b env' σ' l with
   | some (env'',σ'')=>some (.norm,env'',σ'')
   | none=>none)
  | r=>r:=rfl
theorem QE (b:List Nat) (c:Opd) (x y:IC) (env:Env) (σ:Sto):E T H b (.cond c x y) env σ=match ev env c with
  | some (.k (.bool true))=>E T H b x env σ
  | some (.k (.bool false))=>E T H b y env σ
  | _=>none:=rfl
theorem OO (b:List Nat) (id:Nat) (a:IC) (env:Env) (σ:Sto):E T H b (.block id a) env σ=match E T H b a env σ with
  | some (.exit j,env',σ')=>if j=id then some (.norm,env',σ') else some (.exit j,env',σ')
  | r=>r:=rfl
theorem QF (b:List Nat) (a:IC) (env:Env) (σ:Sto):E T H b (.loop a) env σ=LO T H b a (env,σ):=rfl
theorem Td (b:List Nat) (a:IC) (keep:List Nat) (env:Env) (σ:Sto):E T H b (.cut a keep) env σ=match E T H (σ.length::b) a env σ with
  | some (.norm,env',σ')=>if dA σ.length (restrict keep env') then some (.norm,restrict keep env',σ'.take σ.length) else none
  | some (.exit id,env',σ')=>if dA σ.length env' then some (.exit id,env',σ'.take σ.length) else some (.exit id,env',σ')
  | some (.ret,env',σ')=>if dA σ.length env' then some (.ret,env',σ'.take σ.length) else some (.ret,env',σ')
  | r=>r:=rfl
theorem OP (b:List Nat) (f:Opd) (ps keep:List Nat) (asg bd:IC) (env:Env) (σ:Sto):E T H b (.rfunc f ps keep asg bd) env σ=match ev env f with
  | some (.fn (.func g) cap)=>if g<YB then
    match RR T H b g (.yld σ.length::cap) (σ++[.loop (restrict keep env) ps asg bd 0 none]) with
    | some (.ret _,σ')=>match σ'[σ.length]? with
     | some (.loop env' ps' a' b' st pend)=>(sc st pend).bind fun e=>some (e,env,σ'.set σ.length (.loop env' ps' a' b' 3 pend))
     | _=>none
    | some (.pan v,σ')=>some (.pan v,env,σ')
    | none=>none
   else none
  | _=>none:=rfl
theorem QG (b:List Nat) (id:Nat) (keep:List Nat) (env:Env) (σ:Sto):E T H b (.exit id keep) env σ=some (.exit id,restrict keep env,σ):=rfl
theorem Te (b:List Nat) (keep:List Nat) (env:Env) (σ:Sto):E T H b (.ret keep) env σ=some (.ret,restrict keep env,σ):=rfl
theorem L4 (fn:IF) (bars:List Nat) (args:List PV) (σ:Sto):aE T H fn bars args σ=match E T H (σ.length::bars) fn.body (gg fn.mode args) σ with
 | some (.norm,env,σ')|some (.ret,env,σ')=>(jC env σ' fn.res).bind fun vs=>(mF fn.mode σ.length (rG vs) σ').bind fun p=>some (.ret p.1,p.2)
 | some (.pan v,_,σ')=>if below σ.length v then some (.pan v,σ'.take σ.length) else none
 | _=>none:=rfl
theorem au {f:FuncId} {args:List PV} {r:Out} (h:az T H [] f args []=some (r,[])) (hb:below.belowAll 0 args=true) (hf:f<YB) (bars:List Nat) (σ:Sto):RR T H bars f args σ=some (r,σ):=ET h hb hf
theorem aX {f:FuncId} {args:List PV} (h1:below.belowAll 0 args=false) (h2:below.belowAll 0 (norm.normAll args)=false) (bars:List Nat) (σ:Sto):RR T H bars f args σ=az T H bars f args σ:=If h1 h2
theorem be {α S:Type} {b:List Nat} {A:IC} (l:List α) (st:Nat→S→Env×Sto) (g:List α→Nat→S→Ex×Env×Sto) (inv:Nat→S→Prop)
  (h0:∀ s,inv l.length s→E T H b A (st l.length s).1 (st l.length s).2=some (g [] l.length s)∧(g [] l.length s).1≠.norm)
  (h1:∀ i x r s,l[i]? = some x→x∈l→l.drop i=x::r→i<l.length→inv i s →
   (E T H b A (st i s).1 (st i s).2=some (g (x::r) i s)∧(g (x::r) i s).1≠.norm) ∨
   ∃ s',E T H b A (st i s).1 (st i s).2=some (.norm,st (i+1) s')∧inv (i+1) s'∧g (x::r) i s=g r (i+1) s') :
  ∀ (i:Nat) (s:S),i≤l.length→inv i s→LO T H b A (st i s)=some (g (l.drop i) i s):=by
 have key:∀ (k i:Nat) (s:S),i+k=l.length→inv i s→LO T H b A (st i s)=some (g (l.drop i) i s):=by
  intro k
  induction k with
  | zero =>
   intro i s hi hv
   obtain rfl:i=l.length:=by omega
   obtain ⟨h2,h3⟩:=h0 s hv
   rw [Gz (Nat.le_refl _)]
   rw [show st l.length s=((st l.length s).1,(st l.length s).2) from rfl,aP,h2]
   generalize g [] l.length s=y at h3 ⊢
   obtain ⟨e,y1,y2⟩:=y
   cases e<;>first|rfl|exact absurd rfl h3
  | succ k ih =>
   intro i s hi hv
   obtain ⟨x,hx,hm,hd⟩:=eQ (l:=l) (i:=i) (by omega)
   rw [hd]
   rcases h1 i x _ s hx hm hd (by omega) hv with ⟨h2,h3⟩|⟨s',h2,h3,h4⟩
   ·rw [show st i s=((st i s).1,(st i s).2) from rfl,aP,h2]
    generalize g (x::l.drop (i+1)) i s=y at h3 ⊢
    obtain ⟨e,y1,y2⟩:=y
    cases e<;>first|rfl|exact absurd rfl h3
   ·rw [show st i s=((st i s).1,(st i s).2) from rfl,aP,h2,h4]
    exact ih (i+1) s' (by omega) h3
 exact fun i s hi hv=>key (l.length - i) i s (by omega) hv
end
attribute [simp] QD Tc Qd QF QG Te restrict unE qg mD tX AK mkv Ow kR dA norm norm.normAll gg ep qU psE jC Ep mF rG IOp.bad IOp.quiet IOp.growq IOp.avs df tM rD DD Em
end
end Go.Ev

namespace Go.Ev
noncomputable section
instance (priority:=low) eqDec {α:Type}:DecidableEq α:=fun a b=>Classical.propDecidable (a=b)
structure Dc where
 name:ByteArray
 class_:Tm
 imp:Int
instance:Enc Dc:=⟨6,fun d=>.s d.name::(Enc.cells d.class_++[.i d.imp]),fun d=>by simp,fun n d=>by simp,fun d=>by simp [norm,norm.normAll]⟩
@[simp] theorem wM (d:Dc):Enc.cells d=[.s d.name,.i d.class_.op,.i d.class_.hd,.i d.class_.n,.sl false (ab d.class_.args),.i d.imp]:=by
 show PV.s d.name::(Enc.cells d.class_++[.i d.imp])=_
 rw [fK]; rfl
@[simp] theorem Sk (l:List Dc):bV 6 (ab l)=true:=eP l
inductive Rw where
 | mk (op:Int) (name:ByteArray) (args:List Rw)
def Rw.op:Rw→Int|.mk a _ _=>a
def Rw.name:Rw→ByteArray|.mk _ a _=>a
def Rw.args:Rw→List Rw|.mk _ _ a=>a
@[simp] theorem Rw.op_mk (a:Int) (b:ByteArray) (l:List Rw):(Rw.mk a b l).op=a:=rfl
@[simp] theorem Rw.name_mk (a:Int) (b:ByteArray) (l:List Rw):(Rw.mk a b l).name=b:=rfl
@[simp] theorem Rw.args_mk (a:Int) (b:ByteArray) (l:List Rw):(Rw.mk a b l).args=l:=rfl
@[simp] theorem Rw.eta:∀ t:Rw,Rw.mk t.op t.name t.args=t|.mk _ _ _=>rfl
mutual
def Rw.cells:Rw→List PV
 | .mk op nm args=>[.i op,.s nm,.sl false (Rw.cellsL args)]
def Rw.cellsL:List Rw→List (List PV)
 | []=>[]
 | t::r=>Rw.cells t::Rw.cellsL r
end
theorem Rw.cellsL_map (l:List Rw):Rw.cellsL l=l.map Rw.cells:=by
 induction l with
 | nil=>rfl
 | cons t r ih=>simp [Rw.cellsL,ih]
theorem Rw.ind {p:Rw→Prop} (h:∀ t:Rw,(∀ x∈t.args,p x)→p t):∀ t,p t
 | .mk op nm args=>h (.mk op nm args) fun t ht=>Rw.ind h t
termination_by t=>SizeOf.sizeOf t
decreasing_by
 simp at ht
 have:=List.sizeOf_lt_of_mem ht
 simp; omega
mutual
theorem Rw.below_cells (n:Nat):∀ t:Rw,below.belowAll n t.cells=true
 | .mk op hd args=>by simp [Rw.cells,Rw.below_cellsL n args]
theorem Rw.below_cellsL (n:Nat):∀ l:List Rw,below.belowEs n (Rw.cellsL l)=true
 | []=>rfl
 | t::r=>by simp [Rw.cellsL,Rw.below_cells n t,Rw.below_cellsL n r]
end
instance:Enc Rw:=⟨3,Rw.cells,fun t=>by cases t; rfl,Rw.below_cells,fun t=>by cases t; simp [Rw.cells,norm.normAll,norm]⟩
theorem Rw.cellsL_eq (l:List Rw):Rw.cellsL l=ab l:=Rw.cellsL_map l
@[simp] theorem L5 (t:Rw):Enc.cells t=[.i t.op,.s t.name,.sl false (ab t.args)]:=by
 cases t; rw [← Rw.cellsL_eq]; rfl
def Rw.enc (t:Rw):PV:=.agg (Enc.cells t)
theorem bH (t:Rw):PV.agg [.i t.op,.s t.name,.sl false (ab t.args)]=t.enc:=by simp [Rw.enc]
@[simp] theorem Tf (n:Nat) (t:Rw):below n t.enc=true:=by rw [Rw.enc,Bo,Enc.below]
@[simp] theorem UN (t:Rw):norm t.enc=t.enc:=by rw [Rw.enc,norm,Enc.nrm]
@[simp] theorem Vd (t:Rw):okc t.enc=true:=rfl
@[simp] theorem Tg (t:Rw):Go.Ev.cells t.enc=[.i t.op,.s t.name,.sl false (ab t.args)]:=by rw [Rw.enc,mi,L5]
@[simp] theorem Sl (l:List Rw):bV 3 (ab l)=true:=eP l
inductive Pt where
 | mk (op:Int) (sign name:ByteArray) (n:Int) (raw:Rw) (parts:List Pt)
def Pt.op:Pt→Int|.mk a _ _ _ _ _=>a
def Pt.sign:Pt→ByteArray|.mk _ a _ _ _ _=>a
def Pt.name:Pt→ByteArray|.mk _ _ a _ _ _=>a
def Pt.n:Pt→Int|.mk _ _ _ a _ _=>a
def Pt.raw:Pt→Rw|.mk _ _ _ _ a _=>a
def Pt.parts:Pt→List Pt|.mk _ _ _ _ _ a=>a
@[simp] theorem Pt.op_mk (a b c d e f):(Pt.mk a b c d e f).op=a:=rfl
@[simp] theorem Pt.sign_mk (a b c d e f):(Pt.mk a b c d e f).sign=b:=rfl
@[simp] theorem Pt.name_mk (a b c d e f):(Pt.mk a b c d e f).name=c:=rfl
@[simp] theorem Pt.n_mk (a b c d e f):(Pt.mk a b c d e f).n=d:=rfl
@[simp] theorem Pt.raw_mk (a b c d e f):(Pt.mk a b c d e f).raw=e:=rfl
@[simp] theorem Pt.parts_mk (a b c d e f):(Pt.mk a b c d e f).parts=f:=rfl
mutual
def Pt.cells:Pt→List PV
 | .mk op sg nm n raw ps=>[.i op,.s sg,.s nm,.i n]++Enc.cells raw++[.sl false (Pt.cellsL ps)]
def Pt.cellsL:List Pt→List (List PV)
 | []=>[]
 | t::r=>Pt.cells t::Pt.cellsL r
end
theorem Pt.cellsL_map (l:List Pt):Pt.cellsL l=l.map Pt.cells:=by
 induction l with
 | nil=>rfl
 | cons t r ih=>simp [Pt.cellsL,ih]
theorem Pt.ind {p:Pt→Prop} (h:∀ t:Pt,(∀ x∈t.parts,p x)→p t):∀ t,p t
 | .mk a b c d e f=>h (.mk a b c d e f) fun t ht=>Pt.ind h t
termination_by t=>SizeOf.sizeOf t
decreasing_by
 simp at ht
 have:=List.sizeOf_lt_of_mem ht
 simp; omega
mutual
theorem Pt.below_cells (n:Nat):∀ t:Pt,below.belowAll n t.cells=true
 | .mk a b c d e f=>by simp [Pt.cells,Pt.below_cellsL n f]
theorem Pt.below_cellsL (n:Nat):∀ l:List Pt,below.belowEs n (Pt.cellsL l)=true
 | []=>rfl
 | t::r=>by simp [Pt.cellsL,Pt.below_cells n t,Pt.below_cellsL n r]
end
instance:Enc Pt:=⟨8,Pt.cells,fun t=>by cases t; simp [Pt.cells],Pt.below_cells,fun t=>by cases t; simp [Pt.cells,norm.normAll,norm]⟩
theorem Pt.cellsL_eq (l:List Pt):Pt.cellsL l=ab l:=Pt.cellsL_map l
@[simp] theorem L6 (t:Pt):Enc.cells t=[.i t.op,.s t.sign,.s t.name,.i t.n,.i t.raw.op,.s t.raw.name,.sl false (ab t.raw.args),.sl false (ab t.parts)]:=by
 cases t
 show Pt.cells _=_
 simp [Pt.cells,Pt.cellsL_eq]
def Pt.enc (t:Pt):PV:=.agg (Enc.cells t)
@[simp] theorem Th (n:Nat) (t:Pt):below n t.enc=true:=by rw [Pt.enc,Bo,Enc.below]
@[simp] theorem UO (t:Pt):norm t.enc=t.enc:=by rw [Pt.enc,norm,Enc.nrm]
@[simp] theorem Ve (t:Pt):okc t.enc=true:=rfl
@[simp] theorem Ti (t:Pt):Go.Ev.cells t.enc=[.i t.op,.s t.sign,.s t.name,.i t.n,.i t.raw.op,.s t.raw.name,.sl false (ab t.raw.args),.sl false (ab t.parts)]:=by rw [Pt.enc,mi,L6]
@[simp] theorem Sm (l:List Pt):bV 8 (ab l)=true:=eP l
structure It_ where
 word:ByteArray
 name:ByteArray
 raw:Rw
 parts:List Pt
structure Dv where
 item:It_
 after:Int
instance:Enc Dv:=⟨7,fun d=>[.s d.item.word,.s d.item.name,.i d.item.raw.op,.s d.item.raw.name,.sl false (ab d.item.raw.args),.sl false (ab d.item.parts),.i d.after],fun d=>by simp,fun n d=>by simp,fun d=>by simp [norm,norm.normAll]⟩
@[simp] theorem L7 (d:Dv):Enc.cells d=[.s d.item.word,.s d.item.name,.i d.item.raw.op,.s d.item.raw.name,.sl false (ab d.item.raw.args),.sl false (ab d.item.parts),.i d.after]:=rfl
@[simp] theorem Sn (l:List Dv):bV 7 (ab l)=true:=eP l
def It_.cells (x:It_):List PV:=[.s x.word,.s x.name,.i x.raw.op,.s x.raw.name,.sl false (ab x.raw.args),.sl false (ab x.parts)]
def Dc.enc (t:Dc):PV:=.agg (Enc.cells t)
def Dv.enc (t:Dv):PV:=.agg (Enc.cells t)
def It_.enc (t:It_):PV:=.agg t.cells
@[simp] theorem Tk (n:Nat) (t:Dc):below n t.enc=true:=by rw [Dc.enc,Bo,Enc.below]
@[simp] theorem UP (t:Dc):norm t.enc=t.enc:=by rw [Dc.enc,norm,Enc.nrm]
@[simp] theorem Vf (t:Dc):okc t.enc=true:=rfl
@[simp] theorem Tl (d:Dc):Go.Ev.cells d.enc=[.s d.name,.i d.class_.op,.i d.class_.hd,.i d.class_.n,.sl false (ab d.class_.args),.i d.imp]:=by rw [Dc.enc,mi,wM]
theorem a8 (d:Dc):PV.agg [.s d.name,.i d.class_.op,.i d.class_.hd,.i d.class_.n,.sl false (ab d.class_.args),.i d.imp]=d.enc:=by simp [Dc.enc]
@[simp] theorem Tn (n:Nat) (t:Dv):below n t.enc=true:=by rw [Dv.enc,Bo,Enc.below]
@[simp] theorem UQ (t:Dv):norm t.enc=t.enc:=by rw [Dv.enc,norm,Enc.nrm]
@[simp] theorem Vg (t:Dv):okc t.enc=true:=rfl
@[simp] theorem To (d:Dv):Go.Ev.cells d.enc=[.s d.item.word,.s d.item.name,.i d.item.raw.op,.s d.item.raw.name,.sl false (ab d.item.raw.args),.sl false (ab d.item.parts),.i d.after]:=by rw [Dv.enc,mi,L7]
@[simp] theorem Tp (n:Nat) (t:It_):below n t.enc=true:=by simp [It_.enc,It_.cells]
@[simp] theorem UR (t:It_):norm t.enc=t.enc:=by simp [It_.enc,It_.cells,norm,norm.normAll]
@[simp] theorem Vh (t:It_):okc t.enc=true:=rfl
@[simp] theorem Tq (x:It_):Go.Ev.cells x.enc=[.s x.word,.s x.name,.i x.raw.op,.s x.raw.name,.sl false (ab x.raw.args),.sl false (ab x.parts)]:=by rw [It_.enc,mi]; rfl
structure Ld where
 sig:List Dc
 words:List Dv
def Ld.enc (l:Ld):PV:=.agg [.sl false (ab l.sig),.sl false (ab l.words)]
@[simp] theorem Tr (n:Nat) (t:Ld):below n t.enc=true:=by simp [Ld.enc]
@[simp] theorem US (t:Ld):norm t.enc=t.enc:=by simp [Ld.enc,norm,norm.normAll]
@[simp] theorem Vi (t:Ld):okc t.enc=true:=rfl
@[simp] theorem Ts (l:Ld):Go.Ev.cells l.enc=[.sl false (ab l.sig),.sl false (ab l.words)]:=rfl
end
end Go.Ev

namespace Go.Ev
abbrev o_ (d:Nat) (x:IOp):IOper:=⟨some d,x,none⟩
abbrev p_ (x:IOp):IOper:=⟨none,x,none⟩
abbrev mv (d s:Nat):IOper:=⟨some d,.mov (.t s),none⟩
abbrev fa (d off s:Nat):IOper:=⟨some d,.faddr off (.t s),none⟩
abbrev ld (d s:Nat):IOper:=⟨some d,.load none (.t s),none⟩
abbrev ln (d n s:Nat):IOper:=⟨some d,.load (some n) (.t s),none⟩
abbrev nc (d s:Nat):IOper:=⟨some d,.nilc (.t s),none⟩
abbrev gd (x:IOper) (s:Nat) (b:Bool):IOper:=⟨x.dst,x.op,some (s,b)⟩
abbrev bb (d:Nat) (o:BinOp) (x y:Nat):IOper:=⟨some d,.bin o (.t x) (.t y),none⟩
abbrev bi (d:Nat) (o:BinOp) (x:Nat) (n:Int):IOper:=⟨some d,.bin o (.t x) (.c (.i n)),none⟩
abbrev pn (d x y:Nat):IOper:=⟨some d,.pick (.t x) (.t y) (.c (.b false)),none⟩
abbrev po (d x y:Nat):IOper:=⟨some d,.pick (.t x) (.c (.b true)) (.t y),none⟩
abbrev cl (d f:Nat) (l:List Nat):IOper:=⟨some d,.call (.f f) (l.map .t),none⟩
abbrev cq (d f:Nat) (l:List Nat):IOper:=⟨some d,.callq (.f f) (l.map .t),none⟩
abbrev mc (d:Nat) (v:PV):IOper:=⟨some d,.mov (.c v),none⟩
abbrev xt (d i x:Nat):IOper:=⟨some d,.extr i (.t x),none⟩
abbrev st (n x y:Nat):IOper:=⟨none,.store n (.t x) (.t y),none⟩
abbrev ia (d n x y:Nat):IOper:=⟨some d,.iaddr none n (.t x) (.t y),none⟩
abbrev le (d x:Nat):IOper:=⟨some d,.len false (.t x),none⟩
abbrev nt (d x:Nat):IOper:=⟨some d,.not (.t x),none⟩
abbrev al (d:Nat) (z:List PV):IOper:=⟨some d,.alloc z,none⟩
abbrev rg (l:List IOper) (k:List Nat):IC:=.reg none l k
abbrev rs (l:List IOper) (k:List Nat) (c:IC):IC:=.seq (.reg none l k) c
abbrev gt (x:IOper) (s:Nat):IOper:=⟨x.dst,x.op,some (s,true)⟩
abbrev gf (x:IOper) (s:Nat):IOper:=⟨x.dst,x.op,some (s,false)⟩
abbrev cd (x:Nat) (a b:IC):IC:=.cond (.t x) a b
abbrev ik:IC:=.skip
def dr (n:Nat):Option (List (Nat×Option Nat)):=some ((List.range n).map fun i=>(i,none))
def dp (n:Nat):Option (List (Nat×Option Nat)):=some ((List.range n).map (fun i=>(i,none))++[(0,none)])
attribute [simp] o_ p_ mv fa ld ln nc gd bb bi pn po cl cq mc xt st ia le nt al rg rs gt gf cd ik
end Go.Ev

namespace Go.Ev
noncomputable section
abbrev KT (α:Type):=Ex→Env→Sto→Option α
def bX {α:Type} (r:Option (Ex×Env×Sto)) (K:KT α):Option α:=match r with
 | some (x,e,s)=>K x e s
 | none=>none
@[simp] theorem UT {α:Type} (x e s) (K:KT α):bX (some (x,e,s)) K=K x e s:=rfl
section
variable {T:FuncId→Option IF} {H:gk} {α:Type}
def EK (T:FuncId→Option IF) (H:gk) (b:List Nat) (c:IC) (env:Env) (σ:Sto) (K:KT α):Option α:=bX (E T H b c env σ) K
def OK (T:FuncId→Option IF) (H:gk) (b:List Nat) (l:List IOper) (env:Env) (σ:Sto) (K:KT α):Option α:=bX (bD (RR T H) b l env σ) K
def QH:KT (Ex×Env×Sto):=fun x e s=>some (x,e,s)
@[simp] theorem Tt (x e s):QH x e s=some (x,e,s):=rfl
theorem aF (b:List Nat) (c:IC) (env:Env) (σ:Sto):E T H b c env σ=EK T H b c env σ QH:=by
 unfold EK bX QH
 rcases E T H b c env σ with _|⟨x,e,s⟩<;>rfl
def L8 (T:FuncId→Option IF) (H:gk) (b:List Nat) (y:IC) (K:KT α):KT α:=fun x e s=>match x with
 | .norm=>EK T H b y e s K
 | x=>K x e s
@[simp] theorem So (b y e s) (K:KT α):L8 T H b y K .norm e s=EK T H b y e s K:=rfl
@[simp] theorem Tu (b y e s) (K:KT α):L8 T H b y K .ret e s=K .ret e s:=rfl
@[simp] theorem Sq (b y n e s) (K:KT α):L8 T H b y K (.exit n) e s=K (.exit n) e s:=rfl
@[simp] theorem Tv (b y v e s) (K:KT α):L8 T H b y K (.pan v) e s=K (.pan v) e s:=rfl
def QI (keep:List Nat) (K:KT α):KT α:=fun x e s=>match x with
 | .norm=>K .norm (restrict keep e) s
 | x=>K x e s
@[simp] theorem Sr (k e s) (K:KT α):QI k K .norm e s=K .norm (restrict k e) s:=rfl
@[simp] theorem Tw (k v e s) (K:KT α):QI k K (.pan v) e s=K (.pan v) e s:=rfl
def L9 (keep:List Nat) (K:KT α):KT α:=fun x e s=>match x with
 | .norm=>K .norm (restrict keep e) s
 | _=>none
@[simp] theorem QJ (k e s) (K:KT α):L9 k K .norm e s=K .norm (restrict k e) s:=rfl
def Jt (keep:List Nat) (env0:Env) (K:KT α):KT α:=fun x e s=>match x with
 | .norm=>K .norm (restrict keep e) s
 | .pan v=>K (.pan v) env0 s
 | _=>none
@[simp] theorem QK (k e0 e s) (K:KT α):Jt k e0 K .norm e s=K .norm (restrict k e) s:=rfl
@[simp] theorem Ss (k e0 v e s) (K:KT α):Jt k e0 K (.pan v) e s=K (.pan v) e0 s:=rfl
def Bp (id:Nat) (K:KT α):KT α:=fun x e s=>match x with
 | .exit j=>if j=id then K .norm e s else K (.exit j) e s
 | x=>K x e s
@[simp] theorem Qe (k e s) (K:KT α):Bp k K .norm e s=K .norm e s:=rfl
@[simp] theorem QL (k e s) (K:KT α):Bp k K .ret e s=K .ret e s:=rfl
@[simp] theorem QM (k v e s) (K:KT α):Bp k K (.pan v) e s=K (.pan v) e s:=rfl
@[simp] theorem Qf (k j e s) (K:KT α):Bp k K (.exit j) e s=if j=k then K .norm e s else K (.exit j) e s:=rfl
def Ma (n:Nat) (keep:List Nat) (K:KT α):KT α:=fun x e s=>match x with
  | .norm=>if dA n (restrict keep e) then K .norm (restrict keep e) (s.take n) else none
  | .exit id=>if dA n e then K (.exit id) e (s.take n) else K (.exit id) e s
  | .ret=>if dA n e then K .ret e (s.take n) else K .ret e s
  | .pan v=>K (.pan v) e s
@[simp] theorem Su (n k e s) (K:KT α):Ma n k K .norm e s=if dA n (restrict k e) then K .norm (restrict k e) (s.take n) else none:=rfl
@[simp] theorem Sv (n k j e s) (K:KT α):Ma n k K (.exit j) e s=if dA n e then K (.exit j) e (s.take n) else K (.exit j) e s:=rfl
@[simp] theorem Tx (n k e s) (K:KT α):Ma n k K .ret e s=if dA n e then K .ret e (s.take n) else K .ret e s:=rfl
@[simp] theorem Ty (n k v e s) (K:KT α):Ma n k K (.pan v) e s=K (.pan v) e s:=rfl
def OQ (res:List ResV) (mode n:Nat):KT (Out×Sto):=fun x e s=>match x with
 | .norm=>(jC e s res).bind fun vs=>(mF mode n (rG vs) s).bind fun p=>some (.ret p.1,p.2)
 | .ret=>(jC e s res).bind fun vs=>(mF mode n (rG vs) s).bind fun p=>some (.ret p.1,p.2)
 | .pan v=>if below n v then some (.pan v,s.take n) else none
 | .exit _=>none
@[simp] theorem Sw (r m n e s):OQ r m n .norm e s=(jC e s r).bind fun vs=>(mF m n (rG vs) s).bind fun p=>some (.ret p.1,p.2):=rfl
@[simp] theorem Tz (r m n e s):OQ r m n .ret e s=(jC e s r).bind fun vs=>(mF m n (rG vs) s).bind fun p=>some (.ret p.1,p.2):=rfl
@[simp] theorem TC (r m n v e s):OQ r m n (.pan v) e s=if below n v then some (.pan v,s.take n) else none:=rfl
theorem OR (fn:IF) (bars:List Nat) (args:List PV) (σ:Sto):aE T H fn bars args σ=EK T H (σ.length::bars) fn.body (gg fn.mode args) σ (OQ fn.res fn.mode σ.length):=by
 rw [L4]; unfold EK bX
 generalize E T H (σ.length::bars) fn.body (gg fn.mode args) σ=r
 rcases r with _|⟨x,e,s⟩
 ·rfl
 ·cases x<;>rfl
def kIf (T:FuncId→Option IF) (H:gk) (v:Option PV) (b:List Nat) (x y:IC) (env:Env) (σ:Sto) (K:KT α):Option α:=match v with
 | some (.k (.bool true))=>EK T H b x env σ K
 | some (.k (.bool false))=>EK T H b y env σ K
 | _=>none
@[simp] theorem VB (b x y env σ) (K:KT α):kIf T H (some (.k (.bool true))) b x y env σ K=EK T H b x env σ K:=rfl
@[simp] theorem VC (b x y env σ) (K:KT α):kIf T H (some (.k (.bool false))) b x y env σ K=EK T H b y env σ K:=rfl
theorem bn {c:Bool} {b x y env σ} {K:KT α} {R:Option α} (h1:c=true→EK T H b x env σ K=R) (h2:c=false→EK T H b y env σ K=R):kIf T H (some (.k (.bool c))) b x y env σ K=R:=by
 cases c
 ·exact h2 rfl
 ·exact h1 rfl
theorem QN (b env σ) (K:KT α):EK T H b .skip env σ K=K .norm env σ:=rfl
theorem QO (b id keep env σ) (K:KT α):EK T H b (.exit id keep) env σ K=K (.exit id) (restrict keep env) σ:=rfl
theorem TD (b keep env σ) (K:KT α):EK T H b (.ret keep) env σ K=K .ret (restrict keep env) σ:=rfl
theorem TE (b:List Nat) (x y:IC) (env:Env) (σ:Sto) (K:KT α):EK T H b (.seq x y) env σ K=EK T H b x env σ (L8 T H b y K):=by
 unfold EK; rw [Tb]
 generalize E T H b x env σ=r
 rcases r with _|⟨z,e,s⟩
 ·rfl
 ·cases z<;>rfl
theorem TF (b ops keep env σ) (K:KT α):EK T H b (.reg none ops keep) env σ K=OK T H b ops env σ (QI keep K):=by
 unfold EK OK; rw [L3]
 generalize bD (RR T H) b ops env σ=r
 rcases r with _|⟨z,e,s⟩
 ·rfl
 ·cases z<;>rfl
theorem Mb (b:List Nat) (d:List (Nat×Option Nat)) (ops:List IOper) (keep env σ) (K:KT α) (h:d.length≠ops.length+1):EK T H b (.reg (some d) ops keep) env σ K=OK T H b ops env σ (L9 keep K):=by
 unfold EK OK; rw [L3]
 generalize bD (RR T H) b ops env σ=r
 rcases r with _|⟨z,e,s⟩
 ·rfl
 ·cases z<;>first|rfl|(simp only [if_neg h]; rfl)
theorem Mc (b:List Nat) (d:List (Nat×Option Nat)) (ops:List IOper) (keep env σ) (K:KT α) (h:d.length=ops.length+1):EK T H b (.reg (some d) ops keep) env σ K=OK T H b ops env σ (Jt keep (Eo ops env) K):=by
 unfold EK OK; rw [L3]
 generalize bD (RR T H) b ops env σ=r
 rcases r with _|⟨z,e,s⟩
 ·rfl
 ·cases z<;>first|rfl|(simp only [if_pos h]; rfl)
theorem Vj (b n) (ops:List IOper) (keep env σ) (K:KT α) (h:ops.length=n):EK T H b (.reg (dr n) ops keep) env σ K=OK T H b ops env σ (L9 keep K):=Mb _ _ _ _ _ _ _ (by simp; omega)
theorem Vk (b n) (ops:List IOper) (keep env σ) (K:KT α) (h:ops.length=n):EK T H b (.reg (dp n) ops keep) env σ K=OK T H b ops env σ (Jt keep (Eo ops env) K):=Mc _ _ _ _ _ _ _ (by simp; omega)
theorem QP (b c x y env σ) (K:KT α):EK T H b (.cond c x y) env σ K=kIf T H (ev env c) b x y env σ K:=by
 unfold EK kIf; rw [QE]
 generalize ev env c=r
 rcases r with _|v
 ·rfl
 cases v with
 | k u=>cases u<;>try rfl
        rename_i x; cases x<;>rfl
 | _=>rfl
theorem OS (b id a env σ) (K:KT α):EK T H b (.block id a) env σ K=EK T H b a env σ (Bp id K):=by
 unfold EK; rw [OO]
 generalize E T H b a env σ=r
 rcases r with _|⟨z,e,s⟩
 ·rfl
 cases z with
 | exit j =>
  show bX (if j=id then _ else _) K=if j=id then _ else _
  split<;>rfl
 | _=>rfl
theorem TG (b a keep env σ) (K:KT α):EK T H b (.cut a keep) env σ K=EK T H (σ.length::b) a env σ (Ma σ.length keep K):=by
 unfold EK; rw [Td]
 generalize E T H (σ.length::b) a env σ=r
 rcases r with _|⟨z,e,s⟩
 ·rfl
 cases z with
 | norm=>show bX (if _ then _ else _) K=if _ then _ else _
         split<;>rfl
 | exit j=>show bX (if _ then _ else _) K=if _ then _ else _
           split<;>rfl
 | ret=>show bX (if _ then _ else _) K=if _ then _ else _
        split<;>rfl
 | pan v=>rfl
theorem QQ (b a env σ) (K:KT α):EK T H b (.loop a) env σ K=bX (LO T H b a (env,σ)) K:=rfl
def kPs (T:FuncId→Option IF) (H:gk) (r:Option (Env×Sto)) (b:List Nat) (c:IC) (K:KT α):Option α:=match r with
 | some (e,s)=>EK T H b c e s K
 | none=>none
@[simp] theorem TH (e s b c) (K:KT α):kPs T H (some (e,s)) b c K=EK T H b c e s K:=rfl
theorem Vl (b l c env σ) (K:KT α):EK T H b (.ps l c) env σ K=kPs T H (psE b env σ l) b c K:=by
 unfold EK kPs; rw [Tc]
 rcases psE b env σ l with _|⟨e,s⟩<;>rfl
def Md (b:List Nat) (l:List Ps) (K:KT α):KT α:=fun x e s=>match x with
 | .norm=>match psE b e s l with
  | some (e',s')=>K .norm e' s'
  | none=>none
 | x=>K x e s
@[simp] theorem Sx (b l e s) (K:KT α):Md b l K .norm e s=match psE b e s l with
  | some (e',s')=>K .norm e' s'
  | none=>none:=rfl
@[simp] theorem TI (b l e s) (K:KT α):Md b l K .ret e s=K .ret e s:=rfl
@[simp] theorem Sy (b l n e s) (K:KT α):Md b l K (.exit n) e s=K (.exit n) e s:=rfl
@[simp] theorem TJ (b l v e s) (K:KT α):Md b l K (.pan v) e s=K (.pan v) e s:=rfl
theorem TK (b l c env σ) (K:KT α):EK T H b (.psa c l) env σ K=EK T H b c env σ (Md b l K):=by
 unfold EK; rw [Qd]
 generalize E T H b c env σ=r
 rcases r with _|⟨z,e,s⟩
 ·rfl
 cases z with
 | norm =>
  show bX (match psE b e s l with|some (e',s')=>_|none=>none) K=match psE b e s l with|some (e',s')=>_|none=>none
  rcases psE b e s l with _|⟨e',s'⟩<;>rfl
 | _=>rfl
def kCl (T:FuncId→Option IF) (H:gk) (r:Option (Out×Sto)) (o:IOp) (d:Option Nat) (b:List Nat) (l:List IOper) (env:Env) (σ:Sto) (K:KT α):Option α:=match r with
 | some (.ret v,σ')=>open Classical in if o.bad env σ σ' then none else OK T H b l (d7 env d v) σ' K
 | some (.pan v,σ')=>K (.pan v) env σ'
 | none=>none
def kO (T:FuncId→Option IF) (H:gk) (r:Option OpR) (o:IOp) (d:Option Nat) (b:List Nat) (l:List IOper) (env:Env) (K:KT α):Option α:=match r with
 | some (.val v σ)=>OK T H b l (d7 env d v) σ K
 | some (.call f args σ)=>kCl T H (RR T H b f args σ) o d b l env σ K
 | some (.pan v σ)=>K (.pan v) env σ
 | _=>none
@[simp] theorem Vm (v σ o d b l env) (K:KT α):kO T H (some (.val v σ)) o d b l env K=OK T H b l (d7 env d v) σ K:=rfl
@[simp] theorem UU (f args σ o d b l env) (K:KT α):kO T H (some (.call f args σ)) o d b l env K=kCl T H (RR T H b f args σ) o d b l env σ K:=rfl
@[simp] theorem Vn (v σ o d b l env) (K:KT α):kO T H (some (.pan v σ)) o d b l env K=K (.pan v) env σ:=rfl
@[simp] theorem UV (v σ' o d b l env σ) (K:KT α):kCl T H (some (.ret v,σ')) o d b l env σ K=open Classical in if o.bad env σ σ' then none else OK T H b l (d7 env d v) σ' K:=rfl
@[simp] theorem UW (v σ' o d b l env σ) (K:KT α):kCl T H (some (.pan v,σ')) o d b l env σ K=K (.pan v) env σ':=rfl
theorem bI {p:Prop} [Decidable p] {r r':Option OpR} {o d b l env} {K:KT α} {R:Option α} (h1:p→kO T H r o d b l env K=R) (h2:¬ p→kO T H r' o d b l env K=R):kO T H (if p then r else r') o d b l env K=R:=by
 split
 ·exact h1 ‹_›
 ·exact h2 ‹_›
theorem bo {p:Prop} [Decidable p] {r r':Option (Out×Sto)} {o d b l env σ} {K:KT α} {R:Option α} (h1:p→kCl T H r o d b l env σ K=R) (h2:¬ p→kCl T H r' o d b l env σ K=R):kCl T H (if p then r else r') o d b l env σ K=R:=by
 split
 ·exact h1 ‹_›
 ·exact h2 ‹_›
def kG (T:FuncId→Option IF) (H:gk) (g:Option PV) (c:Bool) (o:IOp) (d:Option Nat) (b:List Nat) (l:List IOper) (env:Env) (σ:Sto) (K:KT α):Option α:=match g with
 | some (.k (.bool x))=>if c=x then kO T H (opE b env σ o) o d b l env K else OK T H b l (d7 env d (.tup [])) σ K
 | some (.tup [])=>OK T H b l (d7 env d (.tup [])) σ K
 | _=>none
@[simp] theorem VD (o d b l env σ) (K:KT α):kG T H (some (.k (.bool true))) true o d b l env σ K=kO T H (opE b env σ o) o d b l env K:=rfl
@[simp] theorem VE (o d b l env σ) (K:KT α):kG T H (some (.k (.bool false))) false o d b l env σ K=kO T H (opE b env σ o) o d b l env K:=rfl
@[simp] theorem VF (o d b l env σ) (K:KT α):kG T H (some (.k (.bool true))) false o d b l env σ K=OK T H b l (d7 env d (.tup [])) σ K:=rfl
@[simp] theorem VG (o d b l env σ) (K:KT α):kG T H (some (.k (.bool false))) true o d b l env σ K=OK T H b l (d7 env d (.tup [])) σ K:=rfl
@[simp] theorem Vo (c o d b l env σ) (K:KT α):kG T H (some (.tup [])) c o d b l env σ K=OK T H b l (d7 env d (.tup [])) σ K:=rfl
theorem bJ {x:Bool} {c o d b l env σ} {K:KT α} {R:Option α} (h1:x=true→kG T H (some (.k (.bool true))) c o d b l env σ K=R) (h2:x=false→kG T H (some (.k (.bool false))) c o d b l env σ K=R):kG T H (some (.k (.bool x))) c o d b l env σ K=R:=by
 cases x
 ·exact h2 rfl
 ·exact h1 rfl
theorem TL (b env σ) (K:KT α):OK T H b [] env σ K=K .norm env σ:=rfl
theorem TM (b d o l env σ) (K:KT α):OK T H b (⟨d,o,none⟩::l) env σ K=kO T H (opE b env σ o) o d b l env K:=by
 unfold OK
 rw [bD]
 unfold cL kO kCl OK bX
 simp only [dP]
 rcases opE b env σ o with _|x
 ·rfl
 cases x with
 | call f args σ' =>
  simp only []
  rcases RR T H b f args σ' with _|⟨v,s⟩
  ·rfl
  cases v with
  | ret v =>
   by_cases hb:o.bad env σ' s
   ·simp only [if_pos hb]
   ·simp only [if_neg hb]
  | pan v=>rfl
 | _=>rfl
theorem TN (b d o s c l env σ) (K:KT α):OK T H b (⟨d,o,some (s,c)⟩::l) env σ K=kG T H (bw env s) c o d b l env σ K:=by
 have key:∀ w,dP env (some (s,c))=w→OK T H b (⟨d,o,some (s,c)⟩::l) env σ K=match w with
   | some true=>kO T H (opE b env σ o) o d b l env K
   | some false=>OK T H b l (d7 env d (.tup [])) σ K
   | none=>none:=by
  intro w hw
  rw [← TM]
  unfold OK
  rw [bD,bD]
  unfold cL
  simp only [hw]
  rcases w with _|w
  ·rfl
  cases w<;>simp [dP]
 rw [key _ rfl]
 unfold kG
 simp only [dP]
 rcases bw env s with _|v
 ·rfl
 cases v with
 | k u=>cases u<;>try rfl
        rename_i x; cases x<;>cases c<;>rfl
 | tup l=>cases l<;>rfl
 | _=>rfl
def bB {β:Type} (v:Option PV) (a b:Option β):Option β:=match v with
 | some (.k (.bool true))=>a
 | some (.k (.bool false))=>b
 | _=>none
@[simp] theorem VO {β:Type} (a b:Option β):bB (some (.k (.bool true))) a b=a:=rfl
@[simp] theorem VP {β:Type} (a b:Option β):bB (some (.k (.bool false))) a b=b:=rfl
theorem QR (bars env σ c a b):opE bars env σ (.pick c a b)=bB (ev env c) ((ev env a).bind fun v=>some (.val v σ)) ((ev env b).bind fun v=>some (.val v σ)):=by
 rw [opE]; rfl
theorem bK {x:Bool} {p q:Option OpR} {o d b l env} {K:KT α} {R:Option α} (h1:x=true→kO T H p o d b l env K=R) (h2:x=false→kO T H q o d b l env K=R):kO T H (bB (some (.k (.bool x))) p q) o d b l env K=R:=by
 cases x
 ·exact h2 rfl
 ·exact h1 rfl
@[simp] theorem TO {β γ:Type} (p:Prop) [Decidable p] (a b:Option β) (f:β→Option γ):(if p then a else b).bind f=if p then a.bind f else b.bind f:=by split<;>rfl
end
attribute [simp] QN QO TD TE TF Mb Mc Vj Vk QP OS TG QQ Vl TK TL TM TN QR OR opE.eq_1 opE.eq_3 opE.eq_4 opE.eq_5 opE.eq_6 opE.eq_7 opE.eq_8 opE.eq_9 opE.eq_10 opE.eq_11 opE.eq_12 opE.eq_13 opE.eq_14 opE.eq_15 opE.eq_16 opE.eq_17 opE.eq_18 opE.eq_19 opE.eq_20 opE.eq_21 opE.eq_22 opE.eq_23 opE.eq_24 opE.eq_25 opE.eq_26 opE.eq_27 opE.eq_28 opE.eq_29 opE.eq_30 opE.eq_31 opE.eq_32 opE.eq_33 opE.eq_34 opE.eq_35 opE.eq_36 opE.eq_37 opE.eq_38 opE.eq_39 opE.eq_40 opE.eq_41 opE.eq_42 opE.eq_43 opE.eq_44 opE.eq_45 opE.eq_46 opE.eq_47 opE.eq_48 opE.eq_49 opE.eq_50 opE.eq_51 opE.eq_52 opE.eq_53 opE.eq_54 opE.eq_55 opE.eq_56 opE.eq_57 opE.eq_58 opE.eq_59
end
end Go.Ev
