/- 'append', the operation. -/
import Derived.Test.YtfbichemhllhbaaGreatEvA
import Derived.Great.BuildSlice
import Derived.Laws.MakeOwn
import Derived.MapKept
import Derived.Laws.StructEq
import Derived.Lib.AppendZeros
import Derived.RangeFuncRecord
set_option linter.unnecessarySimpa false
set_option linter.unusedVariables false
set_option linter.unusedSimpArgs false
set_option linter.unusedSectionVars false
namespace Go.Ev
variable [CodeRel]
theorem RelE.append {κ:Kn} {k b:Nat}:∀ {es:List (List PV)} {o:Nat} {ys:List (List PV)},RelE κ k b o es→RelE κ k b (o+es.length * k) ys→RelE κ k b o (es++ys)
 | [],o,ys,_,h=>by simpa using h
 | e::r,o,ys,h,h'=>by
  simp only [RelE,List.cons_append] at *
  refine ⟨h.1,h.2.1,RelE.append h.2.2 ?_⟩
  rwa [show o+k+r.length * k=o+(e::r).length * k by simp [Nat.succ_mul]; omega]
theorem iL {n m:Nat} {l:List (List PV)} (h:below.belowEs n l=true):below.belowEs n (l.take m)=true:=gK fun e he=>jF h (List.mem_of_mem_take he)
theorem wx {n m:Nat} {l:List (List PV)} (h:below.belowEs n l=true):below.belowEs n (l.drop m)=true:=gK fun e he=>jF h (List.mem_of_mem_drop he)
theorem sM {w:World} {b o:Nat} {vs:List Value} {c:Array Value} {T:TypeId} (hc:w.heap[b]? = some (.cells c T (0,0))) (hle:o+vs.length≤c.size) (h1:∀ v∈vs,v.oneCell'=true) :
  w.setCells b o vs=w.setRow b (c.toList.take o++vs++c.toList.drop (o+vs.length)).toArray:=by
 have h2:=run_storeCells_at (P:=default) b o T vs 0 c w hc (by simpa using hle) h1
 have h3:=run_storeCells_cells (P:=default) b o vs 0 w (fun j hj=>by rw [bU hc]; simp; omega) (fun j hj=>frozen_of_row w b _ c T hc) h1
 rw [h2] at h3
 simp only [Nat.add_zero] at h3
 have:=(Result.ok.inj h3).2
 exact this.symm
theorem cO (w:World) (o:Obj):(w.drew.alloc o).heap=w.heap.push o:=rfl
section
variable {P:Program} {bars:List Nat} {κ:Kn} {σ:Sto} {w:World} {env:Env} {a:Act} {o:Oper} {r:OpR}
theorem vr (hi:INV bars κ σ w) {y:PV} {ys:List (List PV)} (hb:below σ.length y=true) (h:df σ y=some ys):below.belowEs σ.length ys=true:=by
 unfold df at h
 split at h
 ·cases h; exact hb
 ·cases h; simp only [below,Bool.and_eq_true] at hb; exact hb.2
 ·cases h; rfl
 ·split at h
  ·rename_i v k es hs
   split at h
   ·cases h
    exact iL (wx (bp (Nat.zero_le _) _ (hi.wf _ _ hs)))
   ·cases h
  ·cases h
 ·cases h
def Kn.know (κ:Kn) (b:Nat) (all:List Value):Kn:={ κ with M:=fun b' o=>if b'=b then all[o]? else κ.M b' o }
def Kn.grew (κ:Kn) (id n:Nat) (t:Option (Nat×Nat×Nat)):Kn:={ κ with gen:=fun j=>if j=id then n else κ.gen j,tok:=fun j=>if j=id then t else κ.tok j }
theorem uT {κ κ':Kn} {n B k:Nat} {zs:List (List PV)} {all:List Value} (hk:∀ e∈zs,e.length=k) (hr:RelL κ zs.flatten all) (h1:∀ u∈all,u.oneCell'=true) (hb:below.belowEs n zs=true) (he:Ext n κ κ') (hM:∀ o,κ'.M B o=all[o]?) :
  RelE κ' k B 0 zs :=
 RelE.of hk (RelL.mono he _ _ (by rw [bZ]; exact hb) hr) fun j v hj=>by
  refine ⟨by rw [Nat.zero_add,hM,hj],h1 v (List.mem_of_getElem? hj)⟩
theorem I5 {κ:Kn} {σ:Sto} {id k n:Nat} (h:σ[id]? = some (.tok k n)):own κ σ id=(κ.tok id).map (·.1):=by rw [dx h]; rfl
theorem fits {n b:Nat} (h:n≤LIM) (hb:b≤32768):n * b≤140737488355328:=by
 have:=Nat.mul_le_mul h hb
 unfold LIM at this
 simpa using this
theorem wy {z:Array Value} (n:Nat) (hz:0<z.size) (h:z.toList.all Value.oneCell'=true):∀ v∈(Builtin.zeroCells z n).toList,v.oneCell'=true:=by
 intro v hv
 simp only [Builtin.zeroCells,Array.toList_map,List.mem_map] at hv
 obtain ⟨i,-,rfl⟩:=hv
 rw [List.all_eq_true] at h
 apply h
 have:i % z.size<z.size:=Nat.mod_lt _ hz
 rw [getElem!_pos z _ this]
 simp
theorem AR (hi:INV bars κ σ w) (he:ENV κ σ.length env a.tmps) {esz:Nat} {x:Opd} {x' y':Operand} {t tx elem:TypeId} {i:TypeInfo} {z:Value} (hx:aJ x x'=true)
  (ht:P.underlying t=some (.slice elem)) (hei:P.info? elem=some i) (hs:i.size=esz) (hz:i.zero=some z) (hzs:z.cells.size=esz) (hz1:z.cells.toList.all Value.oneCell'=true) (hby:i.bytes≤32768) (hpos:0<esz)
  (ho:o.op=.call { callee:=.builtin .append,args:=#[x',y'],argTypes:=#[t,tx] }) {v:PV} (hv:ev env x=some v) {xs ys:List (List PV)} (hxs:df σ v=some xs) (hall1:bV esz xs=true)
  {news:List Value} (hylen:∀ e∈ys,e.length=esz) (hsrc:Src P esz tx (a.eval y') ys.length news w) (hnews:RelL κ ys.flatten news) (hyb:below.belowEs σ.length ys=true) {pv:PV} {σ':Sto} (happ:tM esz σ v ys=some (pv,σ')) :
  OpOK bars κ σ w ((execOp a.eval o).run P w) (.val pv σ'):=by
  obtain ⟨h1,h2⟩:=aA he hx hv
  obtain ⟨adx,capx,olds,hxv,hcx,hsrcx,holds⟩:=xG hi ⟨_,ht⟩ h1 hxs hall1
  have hxb:=vr hi h2 hxs
  have hxlen:=gz hall1
  have hnl:news.length=ys.length * esz:=hsrc.newsLen
  have hol:olds.length=xs.length * esz:=hsrcx.newsLen
  subst hs
  have none0:ys.length=0→(execOp a.eval o).run P w=.ok (.value (a.eval x')) w:=by
   intro h0
   have hn0:news=[]:=List.eq_nil_of_length_eq_zero (by rw [hnl,h0]; simp)
   have hrun:(Builtin.append_ #[t,tx] o.type #[.slice adx xs.length capx,a.eval y']).run P w=.ok (.slice adx xs.length capx) w:=by
    have hc:=hsrc.cells
    rw [h0,hn0] at hc
    have hlen:=hsrc.len
    rw [h0] at hlen
    rcases hsrc.kind with ⟨e',hk⟩|hk <;>
    cases adx<;>simp [Builtin.append_,run_underlying ht,run_underlying hk,sizeOf,typeInfo,hei,hlen,hcx,hc,storeCells]
   simp [execOp,ho,resolve,invoke,builtin,hxv,hrun]
  have grow:capx<xs.length+ys.length→xs.length+ys.length≤LIM →
    (execOp a.eval o).run P w=.ok (.value (.slice (some ⟨w.heap.size,0,none⟩) (xs.length+ys.length) (grownCap w (xs.length+ys.length) capx elem)))
     (w.drew.alloc (.cells ((olds++news).toArray++Builtin.zeroCells z.cells (grownCap w (xs.length+ys.length) capx elem - (xs.length+ys.length))) elem)):=by
   intro hg hlim
   have hcd:=hsrcx.cellsD
   rw [hxv] at hcd
   have hrun:=run_append_grow_src (P:=P) w t tx o.type elem i z ht hei hz adx xs.length capx olds hcd (a.eval y') ys.length news hsrc hg (by unfold LIM at hlim; omega) (growslice_fits hg (fits hlim hby))
   simp [execOp,ho,resolve,invoke,builtin,hxv,hrun]
  have hge:=grownCap_ge w (xs.length+ys.length) capx elem
  generalize hG:grownCap w (xs.length+ys.length) capx elem=G at hge grow
  have hrel:RelL κ (xs++ys).flatten (olds++news):=by rw [List.flatten_append]; exact RelL.append holds hnews
  have hone:∀ u∈olds++news,u.oneCell'=true:=fun u hu=>(List.mem_append.1 hu).elim (hsrcx.one u) (hsrc.one u)
  have hbb:below.belowEs σ.length (xs++ys)=true:=by rw [eN,hxb,hyb]; rfl
  have hlen:∀ e∈xs++ys,e.length=i.size:=fun e he=>(List.mem_append.1 he).elim (hxlen e) (hylen e)
  have hal:(olds++news).length=(xs.length+ys.length) * i.size:=by rw [List.length_append,hol,hnl,Nat.add_mul]
  have hfresh:∀ o,κ.M w.heap.size o=none:=hi.M_fresh (Nat.le_refl _)
  generalize hall:olds++news=all at grow hrel hone hal
  generalize hrow:all.toArray++Builtin.zeroCells z.cells (G - (xs.length+ys.length))=row at grow
  have hrs:row.size=G * i.size:=by
   rw [← hrow,Array.size_append,size_zeroCells,hzs]
   simp only [List.size_toArray,hal]
   rw [← Nat.add_mul]; congr 1; omega
  have hrowat:∀ j,j<all.length→row[j]? = all[j]?:=by
   intro j hj
   rw [← hrow,Array.getElem?_append_left (by simpa using hj)]
   simp
  have hrow1:∀ v∈row.toList,v.oneCell'=true:=by
   intro v hv
   rw [← hrow,Array.toList_append,List.mem_append] at hv
   rcases hv with hv|hv
   ·exact hone v (by simpa using hv)
   ·exact wy _ (by omega) hz1 v hv
  have hnewcell:∀ o v,all[o]? = some v→(w.drew.alloc (.cells row elem)).cell? ⟨w.heap.size,o,none⟩=some v:=by
   intro o v hv
   have hlt:=(List.getElem?_eq_some_iff.1 hv).1
   have:(w.drew.alloc (.cells row elem)).heap[w.heap.size]? = some (.cells row elem (0,0)):=by simp [cO]
   rw [bU this,hrowat o hlt,hv]
  have holdcell:∀ b o v,κ.M b o=some v→(w.drew.alloc (.cells row elem)).cell? ⟨b,o,none⟩=some v:=by
   intro b o v hm
   have hlt:=oc (hi.mem b o v hm)
   have:=hi.mem b o v hm
   simp only [World.cell?,cO,aW hlt] at this ⊢
   exact this
  have holdcap:∀ b,0<κ.cap b→∃ c T fr,(w.drew.alloc (.cells row elem)).heap[b]? = some (.cells c T fr)∧κ.cap b≤c.size:=by
   intro b hb
   obtain ⟨c,T,fr,h,hsz⟩:=hi.cap b hb
   exact ⟨c,T,fr,by rw [cO,aW (Array.getElem?_eq_some_iff.1 h).1]; exact h,hsz⟩
  unfold tM at happ
  split at happ
  ·-- a plain slice
   rename_i tt es
   simp only [df,Option.some.injEq] at hxs
   subst hxs
   split at happ
   ·rename_i h0
    cases happ
    exact aL hi (none0 h0) h1 h2
   ·rename_i h0
    split at happ
    ·rename_i htl
     obtain ⟨rfl,hlim⟩:=htl
     cases happ
     obtain ⟨ad,cap,esz',hx',-,ht',-⟩:=h1
     have hcapx:capx=es.length:=by
      rw [hxv] at hx'
      cases hx'
      exact ht' rfl
     have hg:capx<es.length+ys.length:=by omega
     have hext:Ext σ.length κ (κ.know w.heap.size all):=by
      refine ⟨fun _ _ _=>rfl,fun _ _=>rfl,fun _ _=>Nat.le_refl _,fun _ _ _=>rfl,fun b o v hm=>?_,fun _=>Nat.le_refl _⟩
      simp only [Kn.know]
      rw [if_neg (by rintro rfl; rw [hfresh] at hm; cases hm)]
      exact hm
     obtain ⟨h5,h6⟩:=INV.more (w':=w.drew.alloc (.cells row elem)) (κ':=κ.know w.heap.size all) hi hext (fun _ _=>rfl) (by simp [cO]) (fun b hb=>by rw [cO]; exact aW hb)
      (fun b hb o=>by simp only [Kn.know]; rw [if_neg (by omega)]) (fun b o v hm=>by
       simp only [Kn.know] at hm
       split at hm
       ·rename_i hb; subst hb; exact hnewcell o v hm
       ·exact holdcell b o v hm) holdcap rfl rfl rfl
     refine ⟨_,_,_,.inl (grow hg hlim),⟨_,_,i.size,by rw [List.length_append],by rw [List.length_append]; exact hge,by simp,fun _=>⟨_,_,rfl,?_⟩⟩,by simpa [below] using hbb,h5,h6,Nat.le_refl _⟩
     exact uT hlen hrel hone hbb hext fun o=>by simp [Kn.know]
    ·cases happ
  ·-- a slice with rights
   rename_i id n es
   simp only [df,Option.some.injEq] at hxs
   subst hxs
   split at happ
   ·rename_i k m hsi
    split at happ
    ·rename_i hc
     obtain ⟨rfl,rfl,hpy,hlim⟩:=hc
     cases happ
     have hidlt:id<σ.length:=(List.getElem?_eq_some_iff.1 hsi).1
     obtain ⟨hng,ad,cap,esz',hx',hcap,hE,hlink⟩:=h1
     obtain ⟨hgen,hke,htok⟩:=hi.obs id _ hsi
     have hlink:=hlink hgen
     rw [hxv] at hx'
     cases hx'
     have hext:∀ (tk:Option (Nat×Nat×Nat)) (M':Nat→Nat→Option Value),(∀ b o v,κ.M b o=some v→M' b o=some v)→Ext σ.length κ { (κ.grew id (m+ys.length) tk) with M:=M' }:=by
      intro tk M' hM
      refine ⟨fun _ _ _=>rfl,fun _ _=>rfl,fun j hj=>?_,fun j hj hg=>?_,hM,fun _=>Nat.le_refl _⟩
      ·simp only [Kn.grew]; split
       ·rename_i h; subst h; omega
       ·exact Nat.le_refl _
      ·simp only [Kn.grew] at hg ⊢
       split at hg
       ·rename_i h; subst h; omega
       ·rename_i h; rw [if_neg h]
     have hgt:∀ (tk:Option (Nat×Nat×Nat)) (M':Nat→Nat→Option Value) j,j<σ.length→j≠id→({ (κ.grew id (m+ys.length) tk) with M:=M' }:Kn).gen j=κ.gen j:=by
      intro tk M' j _ hj
      simp only [Kn.grew,if_neg hj]
     have growOw:capx<es.length+ys.length→OpOK bars κ σ w ((execOp a.eval o).run P w) (.val (.ow id (m+ys.length) (es++ys)) (σ.set id (.tok i.size (m+ys.length)))):=by
      intro hg
      let tk:Option (Nat×Nat×Nat):=if G=es.length+ys.length then none else some (w.heap.size,(es.length+ys.length) * i.size,G - (es.length+ys.length))
      let M':Nat→Nat→Option Value:=fun b' o=>if b'=w.heap.size then all[o]? else κ.M b' o
      have hMext:∀ b o v,κ.M b o=some v→M' b o=some v:=by
       intro b o v hm
       simp only [M']
       rw [if_neg (by rintro rfl; rw [hfresh] at hm; cases hm)]
       exact hm
      have hE':=hext tk M' hMext
      have htk:∀ b e f,tk=some (b,e,f)→b=w.heap.size∧e=(es.length+ys.length) * i.size∧f=G - (es.length+ys.length)∧0<f:=by
       intro b e f h
       simp only [tk] at h
       split at h
       ·cases h
       ·simp only [Option.some.injEq,Prod.mk.injEq] at h
        obtain ⟨rfl,rfl,rfl⟩:=h
        exact ⟨rfl,rfl,rfl,by omega⟩
      obtain ⟨h5,h6⟩:=INV.one (w':=w.drew.alloc (.cells row elem)) (κ':={ (κ.grew id (m+ys.length) tk) with M:=M' }) (σ':=σ.set id (.tok i.size (m+ys.length))) hi id (.tok i.size (m+ys.length)) (by omega) (by simp; omega) (dC hidlt) (fun j hj=>cA hj)
       hE' (hgt tk M') (by simp [cO]) (fun b hb _=>by rw [cO]; exact aW hb)
       (fun b hb _ o=>by simp only [M']; rw [if_neg (by omega)])
       (by
        refine ⟨by simp [Kn.grew],by simpa [Kn.grew] using hke,fun b e f h=>?_⟩
        simp only [Kn.grew,if_true] at h
        obtain ⟨rfl,rfl,rfl,hf⟩:=htk b e f h
        refine ⟨⟨row,elem,by simp [cO],by rw [hrs,← Nat.add_mul]; exact Nat.mul_le_mul_right _ (by omega)⟩,fun o ho=>?_⟩
        simp only [M',if_true]
        exact List.getElem?_eq_none (by omega))
       (fun b hb=>by
        simp only [ee,Kn.grew,if_true,Option.map_eq_some_iff] at hb
        obtain ⟨⟨b',e,f⟩,h,rfl⟩:=hb
        obtain ⟨rfl,-⟩:=htk _ e f h
        exact .inr (Nat.le_refl _))
       (fun b o v hm=>by
        simp only [M'] at hm
        split at hm
        ·rename_i hb; subst hb; exact hnewcell o v hm
        ·exact holdcell b o v hm)
       holdcap rfl (fun _ _ _=>rfl) rfl rfl rfl
      refine ⟨_,_,_,.inl (grow hg hlim),⟨by simp [Kn.grew],_,G,i.size,by rw [List.length_append],by rw [List.length_append]; exact hge,fun _=>⟨_,_,rfl,?_⟩,fun _=>?_⟩,by simp only [below,Bool.and_eq_true,decide_eq_true_eq,List.length_set]; exact ⟨hidlt,hbb⟩,h5,h6,by simp⟩
      ·exact uT hlen hrel hone hbb hE' fun o=>by simp [M']
      ·simp only [nN,Kn.grew,if_true,tk,List.length_append]
       split
       ·rename_i h
        split at h
        ·omega
        ·cases h
       ·rename_i b e f h
        obtain ⟨rfl,rfl,rfl,hf⟩:=htk b e f (by simpa only [tk] using h)
        refine ⟨hf,by omega,0,rfl,?_⟩
        rw [hke]; simp
     unfold nN at hlink
     split at hlink
     ·exact growOw (by omega)
     ·rename_i b e f htk
      obtain ⟨hf,rfl,oo,rfl,hoe⟩:=hlink
      by_cases hroom:ys.length≤f
      ·rw [hke] at hoe
       obtain ⟨⟨c,T,hc,hcs⟩,hMn⟩:=htok b e f htk
       have hmul:ys.length * i.size≤f * i.size:=Nat.mul_le_mul_right _ hroom
       have hpm:0<ys.length * i.size:=Nat.mul_pos hpy hpos
       have hrun:=run_append_room_src (P:=P) w t tx o.type elem i ht hei b oo es.length (es.length+f) (a.eval y') ys.length news hsrc (by omega) (fun j hj=>by rw [bU hc]; simp; omega) (fun j hj=>frozen_of_row w b _ c T hc)
       rw [hoe,sM hc (by omega) hsrc.one] at hrun
       let tk:Option (Nat×Nat×Nat):=if f=ys.length then none else some (b,e+ys.length * i.size,f - ys.length)
       let M':Nat→Nat→Option Value:=fun b' o=>if b'=b∧e≤o∧o<e+ys.length * i.size then news[o - e]? else κ.M b' o
       have hMext:∀ b o v,κ.M b o=some v→M' b o=some v:=by
        intro b' o v hm
        simp only [M']
        split
        ·rename_i h
         obtain ⟨rfl,h1,h2⟩:=h
         rw [hMn o h1] at hm; cases hm
        ·exact hm
       have hE':=hext tk M' hMext
       have htk':∀ b' e' f',tk=some (b',e',f')→b'=b∧e'=e+ys.length * i.size∧f'=f - ys.length∧0<f':=by
        intro b' e' f' h
        simp only [tk] at h
        split at h
        ·cases h
        ·simp only [Option.some.injEq,Prod.mk.injEq] at h
         obtain ⟨rfl,rfl,rfl⟩:=h
         exact ⟨rfl,rfl,rfl,by omega⟩
       have hown:own κ σ id=some b:=by rw [I5 hsi,htk]; rfl
       generalize hc':(c.toList.take e++news++c.toList.drop (e+news.length)).toArray=c' at hrun
       have hcs':c'.size=c.size:=by rw [← hc']; simp; omega
       have hrowb:(w.setRow b c').heap[b]? = some (.cells c' T (0,0)):=setRow_heap _ _ _ _ _ _ hc
       have hc'in:∀ j,j<news.length→c'[e+j]? = news[j]?:=by
        intro j hj
        have hte:(c.toList.take e).length=e:=by simp; omega
        rw [← hc',List.append_assoc]
        simp only [List.getElem?_toArray]
        rw [List.getElem?_append_right (by omega),List.getElem?_append_left (by omega)]
        congr 1; omega
       have hc'out:∀ o,o<e→c'[o]? = c[o]?:=by
        intro o ho
        have hte:(c.toList.take e).length=e:=by simp; omega
        rw [← hc',List.append_assoc]
        simp only [List.getElem?_toArray]
        rw [List.getElem?_append_left (by omega),List.getElem?_take,if_pos ho]
        simp
       obtain ⟨h5,h6⟩:=INV.one (w':=w.setRow b c') (κ':={ (κ.grew id (m+ys.length) tk) with M:=M' }) (σ':=σ.set id (.tok i.size (m+ys.length))) hi id (.tok i.size (m+ys.length)) (by omega) (by simp; omega) (dC hidlt) (fun j hj=>cA hj)
        hE' (hgt tk M') (by rw [oP]; exact Nat.le_refl _) (fun b' hb' hno=>setRow_other _ _ _ _ (fun e=>hno (by rw [hown,e])))
        (fun b' hb' hno o=>by
         simp only [M']
         rw [if_neg (by rintro ⟨rfl,-⟩; exact hno hown)])
        (by
         refine ⟨by simp [Kn.grew],by simpa [Kn.grew] using hke,fun b' e' f' h=>?_⟩
         simp only [Kn.grew,if_true] at h
         obtain ⟨rfl,rfl,rfl,hf'⟩:=htk' b' e' f' h
         refine ⟨⟨c',T,hrowb,?_⟩,fun o ho=>?_⟩
         ·have:ys.length * i.size+(f - ys.length) * i.size=f * i.size:=by rw [← Nat.add_mul]; congr 1; omega
          omega
         ·simp only [M']
          rw [if_neg (by omega)]
          exact hMn o (by omega))
        (fun b' hb'=>by
         simp only [ee,Kn.grew,if_true,Option.map_eq_some_iff] at hb'
         obtain ⟨⟨b'',e',f'⟩,h,rfl⟩:=hb'
         obtain ⟨rfl,-⟩:=htk' _ e' f' h
         exact .inl hown)
        (fun b' o v hm=>by
         simp only [M'] at hm
         split at hm
         ·rename_i h
          obtain ⟨rfl,h1,h2⟩:=h
          have:=hc'in (o - e) (by omega)
          rw [show e+(o - e)=o by omega] at this
          rw [bU hrowb,this,hm]
         ·rename_i h
          by_cases hb:b'=b
          ·subst hb
           have hlt:o<e:=by
            rcases Nat.lt_or_ge o e with h'|h'
            ·exact h'
            ·rw [hMn o h'] at hm; cases hm
           have:=hi.mem _ _ _ hm
           rw [bU hrowb,hc'out o hlt]
           rwa [bU hc] at this
          ·rw [cell_setRow_other _ _ _ _ (by simpa using hb)]; exact hi.mem _ _ _ hm)
        (fun b' hcap'=>by
         obtain ⟨d,T',fr,hd,hsz'⟩:=hi.cap b' hcap'
         by_cases hbb':b'=b
         ·subst hbb'
          rw [hc] at hd; cases hd
          exact ⟨c',T,(0,0),hrowb,(show κ.cap b'≤c'.size by omega)⟩
         ·exact ⟨d,T',fr,by rw [setRow_other _ _ _ _ hbb']; exact hd,hsz'⟩)
        rfl (fun _ _ _=>rfl) rfl rfl rfl
       refine ⟨_,_,.slice (some ⟨b,oo,none⟩) (es.length+ys.length) (es.length+f),.inl ?_,⟨by simp [Kn.grew],_,_,i.size,by rw [List.length_append],by rw [List.length_append]; omega,fun _=>⟨_,_,rfl,?_⟩,fun _=>?_⟩,by simp only [below,Bool.and_eq_true,decide_eq_true_eq,List.length_set]; exact ⟨hidlt,hbb⟩,h5,h6,by simp⟩
       ·simp [execOp,ho,resolve,invoke,builtin,hxv,hrun]
       ·refine RelE.append ?_ (RelE.of (vs:=news) hylen (RelL.mono hE' _ _ (by rw [bZ]; exact hyb) hnews) fun j v hj=>⟨?_,hsrc.one v (List.mem_of_getElem? hj)⟩)
        ·by_cases hne:es=[]
         ·subst hne; simp [RelE]
         ·obtain ⟨b1,o1,hbo,hE1⟩:=hE hne
          cases hbo
          have hesz:esz'=i.size:=by
           cases es with
           | nil=>exact absurd rfl hne
           | cons e1 r1 =>
            simp only [RelE] at hE1
            have:=hxlen e1 (by simp)
            omega
          subst hesz
          exact RelE.mono hE' _ _ _ _ hxb hE1
        ·have hlt:=(List.getElem?_eq_some_iff.1 hj).1
         simp only [M']
         rw [if_pos ⟨trivial,by omega,by omega⟩,show oo+es.length * i.size+j - e=j by omega,hj]
       ·simp only [nN,Kn.grew,if_true,tk,List.length_append]
        split
        ·rename_i h
         split at h
         ·omega
         ·cases h
        ·rename_i b' e' f' h
         obtain ⟨rfl,rfl,rfl,hf'⟩:=htk' b' e' f' (by simpa only [tk] using h)
         refine ⟨hf',by omega,oo,rfl,?_⟩
         rw [hke,Nat.add_mul]; omega
      ·exact growOw (by omega)
    ·split at happ
     ·rename_i h0
      cases happ
      exact aL hi (none0 h0) h1 h2
     ·cases happ
   ·cases happ
  ·-- an array
   rename_i id ver off len
   split at happ
   ·rename_i v k es hsi
    split at happ
    ·rename_i hc
     obtain ⟨rfl,rfl,rfl,hpy,hle,hlim,hy0⟩:=hc
     cases happ
     have hidlt:id<σ.length:=(List.getElem?_eq_some_iff.1 hsi).1
     obtain ⟨hgen,hke,⟨c,T,hc,hes,hone',pre,post,vs,hcl,hpre,hrv⟩,hMn⟩:=hi.obs id _ hsi
     obtain ⟨-,ad,cap,hx',hcap,hlink⟩:=h1
     have hlink:=hlink hgen
     rw [hxv] at hx'
     have hxs':xs=es.take len:=by
      simp only [df,hsi] at hxs
      split at hxs
      ·simp at hxs; exact hxs.symm
      ·cases hxs
     have hxl:xs.length=len:=by rw [hxs']; simp; omega
     injection hx' with e1 e2 e3
     subst e1; subst e3; clear e2
     have hext:∀ (ρ':Nat→Nat×Nat) (cap':Nat→Nat),(∀ j,j≠id→ρ' j=κ.ρ j)→(∀ b,κ.cap b≤cap' b)→Ext σ.length κ { (κ.grew id (v+1) (κ.tok id)) with ρ:=ρ',cap:=cap' }:=by
      intro ρ' cap' hρ hcp
      refine ⟨fun j hj hg=>?_,fun _ _=>rfl,fun j hj=>?_,fun j hj hg=>?_,fun _ _ _ h=>h,hcp⟩
      ·simp only [Kn.grew] at hg ⊢
       split at hg
       ·rename_i h; subst h; omega
       ·rename_i h; exact hρ j h
      ·simp only [Kn.grew]; split
       ·rename_i h; subst h; omega
       ·exact Nat.le_refl _
      ·simp only [Kn.grew]; split
       ·rename_i h; subst h; rfl
       ·rfl
     have hgt:∀ (ρ':Nat→Nat×Nat) (cap':Nat→Nat) j,j<σ.length→j≠id→({ (κ.grew id (v+1) (κ.tok id)) with ρ:=ρ',cap:=cap' }:Kn).gen j=κ.gen j:=by
      intro ρ' cap' j _ hj
      simp only [Kn.grew,if_neg hj]
     have hvl:vs.length=es.length * i.size:=by rw [← hrv.length,qi hes]
     have hobk:∀ e∈es.take len++ys,e.length=i.size:=fun e he=>(List.mem_append.1 he).elim (fun h=>hes e (List.mem_of_mem_take h)) (hylen e)
     have hwfe:below.belowEs 0 es=true:=hi.wf _ _ hsi
     have hlen0:∀ (ρ':Nat→Nat×Nat) (cap':Nat→Nat) (oldv:List Value),Ext σ.length κ { (κ.grew id (v+1) (κ.tok id)) with ρ:=ρ',cap:=cap' }→RelL κ (es.take len).flatten oldv→RelL { (κ.grew id (v+1) (κ.tok id)) with ρ:=ρ',cap:=cap' } (es.take len++ys).flatten (oldv++news):=by
      intro ρ' cap' oldv hE ho
      rw [List.flatten_append]
      exact RelL.append (RelL.mono hE _ _ (by rw [bZ]; exact bp (Nat.zero_le _) _ (iL hwfe)) ho) (RelL.mono hE _ _ (by rw [bZ]; exact hyb) hnews)
     by_cases hroom:len+ys.length≤capx
     ·obtain ⟨rfl,hcp⟩:=hlink (by omega)
      simp only [Nat.zero_mul,Nat.add_zero,Nat.zero_add] at hcp hxv
      rw [hke] at hcp
      have hpm:0<capx * i.size:=Nat.mul_pos (by omega) hpos
      obtain ⟨d,T',fr,hd,hds⟩:=hi.cap (κ.ρ id).1 (by omega)
      rw [hc] at hd; cases hd
      have hmul:(len+ys.length) * i.size≤capx * i.size:=Nat.mul_le_mul_right _ hroom
      rw [Nat.add_mul] at hmul
      have hcb:(κ.ρ id).2+len * i.size+news.length≤c.size:=by omega
      have hrun:=run_append_room_src (P:=P) w t tx o.type elem i ht hei (κ.ρ id).1 (κ.ρ id).2 len capx (a.eval y') ys.length news hsrc (by omega) (fun j hj=>by rw [bU hc]; simp; omega) (fun j hj=>frozen_of_row w _ _ c T hc)
      rw [sM hc hcb hsrc.one] at hrun
      generalize hc':(c.toList.take ((κ.ρ id).2+len * i.size)++news++c.toList.drop ((κ.ρ id).2+len * i.size+news.length)).toArray=c' at hrun
      have hcs':c'.size=c.size:=by rw [← hc']; simp; omega
      have hrowb:(w.setRow (κ.ρ id).1 c').heap[(κ.ρ id).1]? = some (.cells c' T (0,0)):=setRow_heap _ _ _ _ _ _ hc
      have hown:own κ σ id=some (κ.ρ id).1:=by rw [dx hsi]; rfl
      have hE':=hext κ.ρ κ.cap (fun _ _=>rfl) (fun _=>Nat.le_refl _)
      have hle':len * i.size≤vs.length:=by rw [hvl]; exact Nat.mul_le_mul_right _ hle
      have htk:c.toList.take ((κ.ρ id).2+len * i.size)=pre++vs.take (len * i.size):=by
       rw [hcl,List.append_assoc,List.take_append,List.take_of_length_le (l:=pre) (by omega),hpre,Nat.add_sub_cancel_left,List.take_append_of_le_length hle']
      obtain ⟨h5,h6⟩:=INV.one (w':=w.setRow (κ.ρ id).1 c') (κ':={ (κ.grew id (v+1) (κ.tok id)) with ρ:=κ.ρ,cap:=κ.cap }) (σ':=σ.set id (.arr (v+1) i.size (es.take len++ys))) hi id (.arr (v+1) i.size (es.take len++ys)) (by omega) (by simp; omega) (dC hidlt) (fun j hj=>cA hj)
       hE' (hgt _ _) (by rw [oP]; exact Nat.le_refl _) (fun b' hb' hno=>setRow_other _ _ _ _ (fun e=>hno (by rw [hown,e]))) (fun _ _ _ _=>rfl)
       (by
        refine ⟨by simp [Kn.grew],hke,⟨c',T,hrowb,hobk,fun u hu=>?_,pre,c.toList.drop ((κ.ρ id).2+len * i.size+news.length),vs.take (len * i.size)++news,?_,hpre,hlen0 _ _ _ hE' ?_⟩,hMn⟩
        ·rw [← hc'] at hu
         simp only [List.mem_append] at hu
         rcases hu with (hu|hu)|hu
         ·exact hone' u (List.mem_of_mem_take hu)
         ·exact hsrc.one u hu
         ·exact hone' u (List.mem_of_mem_drop hu)
        ·rw [← hc',htk]; simp [List.append_assoc]
        ·rw [xE len hes]; exact RelL.take _ hrv)
       (fun b' hb'=>by cases hb'; exact .inl hown)
       (fun b' o v hm=>by
        have hm:κ.M b' o=some v:=hm
        by_cases hb:b'=(κ.ρ id).1
        ·subst hb
         have hlt:o<(κ.ρ id).2:=by
          rcases Nat.lt_or_ge o (κ.ρ id).2 with h'|h'
          ·exact h'
          ·rw [hMn o h'] at hm; cases hm
         have:=hi.mem _ _ _ hm
         rw [bU hc] at this
         rw [bU hrowb,← this,← hc',List.append_assoc]
         simp only [List.getElem?_toArray]
         rw [List.getElem?_append_left (by simp; omega),List.getElem?_take,if_pos (by omega)]
         simp
        ·rw [cell_setRow_other _ _ _ _ (by simpa using hb)]; exact hi.mem _ _ _ hm)
       (fun b' hcap'=>by
        obtain ⟨d,T',fr,hd,hsz'⟩:=hi.cap b' hcap'
        by_cases hbb':b'=(κ.ρ id).1
        ·subst hbb'
         rw [hc] at hd; cases hd
         exact ⟨c',T,(0,0),hrowb,(show κ.cap (κ.ρ id).1≤c'.size by omega)⟩
        ·exact ⟨d,T',fr,by rw [setRow_other _ _ _ _ hbb']; exact hd,hsz'⟩)
       (by simp only [ba,eN,iL hwfe,Bool.true_and]; exact hy0) (fun _ _ _=>by simp only [ba,eN,iL hwfe,Bool.true_and]; exact hy0) rfl rfl rfl
      refine ⟨_,_,.slice (some ⟨(κ.ρ id).1,(κ.ρ id).2,none⟩) (len+ys.length) capx,.inl ?_,⟨by simp [Kn.grew],_,_,rfl,by omega,fun _ hcp'=>?_⟩,by simpa [below] using hidlt,h5,h6,by simp⟩
      ·rw [hxl] at hxv
       simp [execOp,ho,resolve,invoke,builtin,hxv,hrun]
      ·simp only [Nat.zero_mul,Nat.add_zero,Nat.zero_add]
       exact ⟨trivial,by simpa [Kn.grew,hke] using hcp⟩
     ·have hB0:κ.cap w.heap.size=0:=by
       rcases Nat.eq_zero_or_pos (κ.cap w.heap.size) with h|h
       ·exact h
       ·obtain ⟨d,T',fr,hd,-⟩:=hi.cap _ h
        have:=(Array.getElem?_eq_some_iff.1 hd).1
        omega
      have hg:capx<xs.length+ys.length:=by omega
      have hxlim:xs.length+ys.length≤LIM:=by omega
      let ρ':Nat→Nat×Nat:=fun j=>if j=id then (w.heap.size,0) else κ.ρ j
      let cap':Nat→Nat:=fun b=>if b=w.heap.size then row.size else κ.cap b
      have hE':=hext ρ' cap' (fun j hj=>by simp only [ρ']; rw [if_neg hj]) (fun b=>by
       simp only [cap']
       split
       ·rename_i h; subst h; omega
       ·exact Nat.le_refl _)
      obtain ⟨h5,h6⟩:=INV.one (w':=w.drew.alloc (.cells row elem)) (κ':={ (κ.grew id (v+1) (κ.tok id)) with ρ:=ρ',cap:=cap' }) (σ':=σ.set id (.arr (v+1) i.size (es.take len++ys))) hi id (.arr (v+1) i.size (es.take len++ys)) (by omega) (by simp; omega) (dC hidlt) (fun j hj=>cA hj)
       hE' (hgt _ _) (by simp [cO]) (fun b hb _=>by rw [cO]; exact aW hb) (fun _ _ _ _=>rfl)
       (by
        refine ⟨by simp [Kn.grew],hke,⟨row,elem,by simp [cO,ρ'],hobk,hrow1,[],(Builtin.zeroCells z.cells (G - (xs.length+ys.length))).toList,olds++news,?_,by simp [ρ'],hlen0 _ _ _ hE' (by rw [← hxs']; exact holds)⟩,fun o _=>?_⟩
        ·rw [← hrow,← hall]; simp
        ·simp only [ρ',if_true]; exact hfresh o)
       (fun b' hb'=>by
        simp only [ee,ρ',if_true,Option.some.injEq] at hb'
        exact .inr (by omega))
       (fun b' o v hm=>holdcell b' o v hm)
       (fun b' hcap'=>by
        simp only [cap'] at hcap' ⊢
        split at hcap'
        ·rename_i h; subst h
         exact ⟨row,elem,(0,0),by simp [cO],by simp⟩
        ·rename_i h
         rw [if_neg h]; exact holdcap b' hcap')
       (by simp only [ba,eN,iL hwfe,Bool.true_and]; exact hy0) (fun _ _ _=>by simp only [ba,eN,iL hwfe,Bool.true_and]; exact hy0) rfl rfl rfl
      refine ⟨_,_,_,.inl (grow hg hxlim),⟨by simp [Kn.grew],_,G,by rw [hxl],by omega,fun _ hcp'=>?_⟩,by simpa [below] using hidlt,h5,h6,by simp⟩
      simp only [ρ',cap',if_true,Nat.zero_mul,Nat.add_zero,Nat.zero_add]
      refine ⟨trivial,?_⟩
      simp only [Kn.grew,hke,hrs]; exact Nat.le_refl _
    ·split at happ
     ·rename_i h0
      cases happ
      exact aL hi (none0 h0) h1 h2
     ·cases happ
   ·cases happ
  ·cases happ
theorem qa (hi:INV bars κ σ w) (he:ENV κ σ.length env a.tmps) {esz:Nat} {x y:Opd} {x' y':Operand} {t tx elem:TypeId} {i:TypeInfo} {z:Value} (hx:aJ x x'=true) (hy:aJ y y'=true)
  (ht:P.underlying t=some (.slice elem)) (htx:∃ e',P.underlying tx=some (.slice e')) (hei:P.info? elem=some i) (hs:i.size=esz) (hz:i.zero=some z) (hzs:z.cells.size=esz) (hz1:z.cells.toList.all Value.oneCell'=true) (hby:i.bytes≤32768) (hpos:0<esz)
  (ho:o.op=.call { callee:=.builtin .append,args:=#[x',y'],argTypes:=#[t,tx] }) (hr:opE bars env σ (.app esz x y)=some r):OpOK bars κ σ w ((execOp a.eval o).run P w) r:=by
 simp only [opE,Option.bind_eq_some_iff] at hr
 obtain ⟨v,hv,u,hu,xs,hxs,ys,hys,hr⟩:=hr
 split at hr
 ·rename_i hall
  obtain ⟨hall1,hall2⟩:=hall
  simp only [Option.bind_eq_some_iff,Option.some.injEq] at hr
  obtain ⟨⟨pv,σ'⟩,happ,rfl⟩:=hr
  obtain ⟨h3,h4⟩:=aA he hy hu
  obtain ⟨ady,capy,news,hyv,hcy,hsrc,hnews⟩:=xG hi htx h3 hys hall2
  exact AR hi he hx ht hei hs hz hzs hz1 hby hpos ho hv hxs hall1 (gz hall2) hsrc hnews (vr hi h4 hys) happ
 ·cases hr
theorem DJ {κ:Kn}:∀ l:List UInt8,RelL κ (l.map fun b=>PV.k (.int .u8 b.toNat)) (l.map fun b=>Value.int .u8 b.toNat)
 | []=>rfl
 | b::r=>⟨_,_,rfl,rfl,DJ r⟩
theorem AS:∀ l:List UInt8,(l.map fun b=>[PV.k (.int .u8 b.toNat)]).flatten=l.map fun b=>PV.k (.int .u8 b.toNat)
 | []=>rfl
 | b::r=>by simp [AS r]
theorem y6 {n:Nat}:∀ l:List UInt8,below.belowEs n (l.map fun b=>[PV.k (.int .u8 b.toNat)])=true
 | []=>rfl
 | b::r=>by simp [below.belowEs,below.belowAll,below,y6 r]
theorem HG (hi:INV bars κ σ w) (he:ENV κ σ.length env a.tmps) {x y:Opd} {x' y':Operand} {t tx elem:TypeId} {i:TypeInfo} {z:Value} (hx:aJ x x'=true) (hy:aJ y y'=true)
  (ht:P.underlying t=some (.slice elem)) (htx:P.underlying tx=some .string) (hei:P.info? elem=some i) (hs:i.size=1) (hz:i.zero=some z) (hzs:z.cells.size=1) (hz1:z.cells.toList.all Value.oneCell'=true) (hby:i.bytes≤32768)
  (ho:o.op=.call { callee:=.builtin .append,args:=#[x',y'],argTypes:=#[t,tx] }) (hr:opE bars env σ (.apps x y)=some r):OpOK bars κ σ w ((execOp a.eval o).run P w) r:=by
 simp only [opE,Option.bind_eq_some_iff] at hr
 obtain ⟨v,hv,u,hu,xs,hxs,ys,hys,hr⟩:=hr
 split at hr
 ·rename_i hall
  simp only [Option.bind_eq_some_iff,Option.some.injEq] at hr
  obtain ⟨⟨pv,σ'⟩,happ,rfl⟩:=hr
  obtain ⟨h3,h4⟩:=aA he hy hu
  unfold FH at hys
  split at hys
  ·rename_i s
   cases hys
   simp only [RelV] at h3
   refine AR hi he hx ht hei hs hz hzs hz1 hby (by omega) ho hv hxs hall (news:=byteCells s) (fun e he=>?_) ?_ ?_ (y6 _) happ
   ·obtain ⟨b,-,rfl⟩:=List.mem_map.1 he; rfl
   ·rw [h3]
    have:=Src.ofString (P:=P) w htx s
    simpa using this
   ·rw [AS]; exact DJ _
  ·cases hys
 ·cases hr
end
end Go.Ev

namespace Go.Ev
variable [CodeRel]
section
variable {P:Program} {bars:List Nat} {κ:Kn} {σ:Sto} {w:World} {env:Env} {a:Act} {o:Oper} {r:OpR}
def Kn.pend (κ:Kn) (id n B base:Nat) (M':Nat→Nat→Option Value) (c:Nat):Kn :=
 { κ with gen:=fun j=>if j=id then n else κ.gen j,ρ:=fun j=>if j=id then (B,base) else κ.ρ j,M:=M',cap:=fun b=>if b=B then max c (κ.cap B) else κ.cap b }
theorem HI (hi:INV bars κ σ w) (he:ENV κ σ.length env a.tmps) {esz:Nat} {x y:Opd} {x' y':Operand} {t tx elem:TypeId} {i:TypeInfo} {z:Value} (hx:aJ x x'=true) (hy:aJ y y'=true)
  (ht:P.underlying t=some (.slice elem)) (htx:∃ e',P.underlying tx=some (.slice e')) (hei:P.info? elem=some i) (hs:i.size=esz) (hz:i.zero=some z) (hzs:z.cells.size=esz) (hz1:z.cells.toList.all Value.oneCell'=true) (hby:i.bytes≤32768) (hpos:0<esz)
  (ho:o.op=.call { callee:=.builtin .append,args:=#[x',y'],argTypes:=#[t,tx] }) (hr:opE bars env σ (.appz esz x y)=some r):OpOK bars κ σ w ((execOp a.eval o).run P w) r:=by
 simp only [opE,Option.bind_eq_some_iff] at hr
 obtain ⟨v,hv,u,hu,ys,hys,hr⟩:=hr
 unfold P3 at hr
 split at hr
 case h_2=>cases hr
 rename_i id n es zz
 split at hr
 case h_2=>cases hr
 rename_i k m hsi
 split at hr
 case isFalse=>cases hr
 rename_i hc
 obtain ⟨rfl,rfl,hlim,hall1,hall2,hb1,hb2⟩:=hc
 cases hr
 obtain ⟨h1,h2⟩:=aA he hx hv
 obtain ⟨h3,h4⟩:=aA he hy hu
 obtain ⟨ady,capy,news,hyv,hcy,hsrc,hnews⟩:=xG hi htx h3 hys hall2
 obtain ⟨adx,capx,olds,hxv,hcx,hsrcx,holds⟩:=xG hi ⟨_,ht⟩ h1 (ys:=es) rfl hall1
 have hylen:=gz hall2
 have hxlen:=gz hall1
 have hzl:zz.length=k:=hylen zz (by simp)
 have hnl:news.length=k:=by have:=hsrc.newsLen; simpa using this
 have hol:olds.length=es.length * k:=hsrcx.newsLen
 simp only [List.flatten_cons,List.flatten_nil,List.append_nil] at hnews
 simp only [List.length_singleton] at hsrc
 subst hs
 have hidlt:id<σ.length:=(List.getElem?_eq_some_iff.1 hsi).1
 obtain ⟨hng,ad,cap,esz',hx',hcap,hE,hlink⟩:=h1
 obtain ⟨hgen,hke,htok⟩:=hi.obs id _ hsi
 have hlink:=hlink hgen
 rw [hxv] at hx'
 cases hx'
 have hfresh:∀ o,κ.M w.heap.size o=none:=hi.M_fresh (Nat.le_refl _)
 have hB0:κ.cap w.heap.size=0:=by
  rcases Nat.eq_zero_or_pos (κ.cap w.heap.size) with h|h
  ·exact h
  ·obtain ⟨d,T',fr,hd,-⟩:=hi.cap _ h
   have:=(Array.getElem?_eq_some_iff.1 hd).1
   omega
 have hext:∀ (B base c:Nat) (M':Nat→Nat→Option Value),(∀ b o v,κ.M b o=some v→M' b o=some v)→Ext σ.length κ (κ.pend id (m+1) B base M' c):=by
  intro B base c M' hM
  refine ⟨fun j hj hg=>?_,fun _ _=>rfl,fun j hj=>?_,fun j hj hg=>rfl,hM,fun b=>?_⟩
  ·simp only [Kn.pend] at hg ⊢
   split at hg
   ·rename_i h; subst h; omega
   ·rename_i h; rw [if_neg h]
  ·simp only [Kn.pend]; split
   ·rename_i h; subst h; omega
   ·exact Nat.le_refl _
  ·simp only [Kn.pend]; split
   ·rename_i h; subst h; omega
   ·exact Nat.le_refl _
 have hgt:∀ (B base c:Nat) (M':Nat→Nat→Option Value) j,j<σ.length→j≠id→(κ.pend id (m+1) B base M' c).gen j=κ.gen j:=by
  intro B base c M' j _ hj
  simp only [Kn.pend,if_neg hj]
 have hbz:ba 0 (.pt (m+1) i.size es zz)=true:=by simp [ba,hb1,hb2]
 have growOw:capx<es.length+1→OpOK bars κ σ w ((execOp a.eval o).run P w) (.val (.rs id (m+1) 0 (es.length+1)) (σ.set id (.pt (m+1) i.size es zz))):=by
  intro hg
  have hcd:=hsrcx.cellsD
  rw [hxv] at hcd
  have hrun:=run_append_grow_src (P:=P) w t tx o.type elem i z ht hei hz adx es.length capx olds hcd (a.eval y') 1 news hsrc hg (by unfold LIM at hlim; omega) (growslice_fits hg (fits hlim hby))
  have hge:=grownCap_ge w (es.length+1) capx elem
  generalize hG:grownCap w (es.length+1) capx elem=G at hge hrun
  generalize hrow:(olds++news).toArray++Builtin.zeroCells z.cells (G - (es.length+1))=row at hrun
  have hrs:row.size=G * i.size:=by
   rw [← hrow,Array.size_append,size_zeroCells,hzs]
   simp only [List.size_toArray,List.length_append,hol,hnl]
   rw [show es.length * i.size+i.size=(es.length+1) * i.size by rw [Nat.succ_mul],← Nat.add_mul]; congr 1; omega
  have hrowat:∀ j,j<olds.length→row[j]? = olds[j]?:=by
   intro j hj
   rw [← hrow,Array.getElem?_append_left (by simp; omega)]
   simp only [List.getElem?_toArray]
   rw [List.getElem?_append_left hj]
  let M':Nat→Nat→Option Value:=fun b' o=>if b'=w.heap.size then olds[o]? else κ.M b' o
  have hMext:∀ b o v,κ.M b o=some v→M' b o=some v:=by
   intro b o v hm
   simp only [M']
   rw [if_neg (by rintro rfl; rw [hfresh] at hm; cases hm)]
   exact hm
  have hE':=hext w.heap.size 0 (G * i.size) M' hMext
  have hnewb:(w.drew.alloc (.cells row elem)).heap[w.heap.size]? = some (.cells row elem (0,0)):=by simp [cO]
  obtain ⟨h5,h6⟩:=INV.one (w':=w.drew.alloc (.cells row elem)) (κ':=κ.pend id (m+1) w.heap.size 0 M' (G * i.size)) (σ':=σ.set id (.pt (m+1) i.size es zz)) hi id (.pt (m+1) i.size es zz) (by omega) (by simp; omega) (dC hidlt) (fun j hj=>cA hj)
   hE' (hgt _ _ _ _) (by simp [cO]) (fun b hb _=>by rw [cO]; exact aW hb)
   (fun b hb _ o=>by simp only [Kn.pend,M']; rw [if_neg (by omega)])
   (by
    refine ⟨by simp [Kn.pend],hke,⟨row,elem,by simp only [Kn.pend,if_true]; exact hnewb,hzl,?_,olds,(Builtin.zeroCells z.cells (G - (es.length+1))).toList,news,?_,?_,?_,hsrc.one⟩,fun o ho=>?_⟩
    ·simp only [Kn.pend,if_true]
     exact RelE.of hxlen (RelL.mono hE' _ _ (by rw [bZ]; exact bp (Nat.zero_le _) _ hb1) holds) fun j v hj=>⟨by simp only [Kn.pend,M',if_true,Nat.zero_add]; exact hj,hsrcx.one v (List.mem_of_getElem? hj)⟩
    ·rw [← hrow]; simp
    ·simp only [Kn.pend,if_true,hol]; omega
    ·exact RelL.mono hE' _ _ (br (Nat.zero_le _) _ hb2) hnews
    ·simp only [Kn.pend,if_true,M'] at ho ⊢
     exact List.getElem?_eq_none (by omega))
   (fun b hb=>by
    simp only [ee,Kn.pend,if_true,Option.some.injEq] at hb
    exact .inr (by omega))
   (fun b o v hm=>by
    simp only [Kn.pend,M'] at hm
    split at hm
    ·rename_i hb; subst hb
     have hlt:=(List.getElem?_eq_some_iff.1 hm).1
     rw [bU hnewb,hrowat o hlt,hm]
    ·have hlt:=oc (hi.mem b o v hm)
     have:=hi.mem b o v hm
     simp only [World.cell?,cO,aW hlt] at this ⊢
     exact this)
   (fun b hb=>by
    simp only [Kn.pend] at hb ⊢
    split at hb
    ·rename_i h; subst h
     rw [hB0]
     exact ⟨row,elem,(0,0),hnewb,by simp [hrs]⟩
    ·rename_i h; rw [if_neg h]
     obtain ⟨c,T,fr,h,hsz⟩:=hi.cap b hb
     exact ⟨c,T,fr,by rw [cO,aW (Array.getElem?_eq_some_iff.1 h).1]; exact h,hsz⟩)
   (fp (Nat.zero_le _) _ hbz) (fun _ _ _=>fp (Nat.zero_le _) _ hbz) rfl rfl rfl
  refine ⟨_,_,.slice (some ⟨w.heap.size,0,none⟩) (es.length+1) G,.inl ?_,⟨by simp [Kn.pend],_,G,rfl,hge,fun _ hcp=>?_⟩,by simpa [below] using hidlt,h5,h6,by simp⟩
  ·simp [execOp,ho,resolve,invoke,builtin,hxv,hrun]
  ·simp only [Kn.pend,if_true,hke]
   exact ⟨by simp,by simp; omega⟩
 unfold nN at hlink
 split at hlink
 ·exact growOw (by omega)
 ·rename_i b e f htk
  obtain ⟨hf,rfl,oo,rfl,hoe⟩:=hlink
  rw [hke] at hoe
  obtain ⟨⟨c,T,hc,hcs⟩,hMn⟩:=htok b e f htk
  have hmul:1 * i.size≤f * i.size:=Nat.mul_le_mul_right _ hf
  have hrun:=run_append_room_src (P:=P) w t tx o.type elem i ht hei b oo es.length (es.length+f) (a.eval y') 1 news hsrc (by omega) (fun j hj=>by rw [bU hc]; simp; omega) (fun j hj=>frozen_of_row w b _ c T hc)
  rw [hoe,sM hc (by omega) hsrc.one] at hrun
  have hown:own κ σ id=some b:=by rw [I5 hsi,htk]; rfl
  have hE':=hext b oo (e+f * i.size) κ.M (fun _ _ _ h=>h)
  generalize hc':(c.toList.take e++news++c.toList.drop (e+news.length)).toArray=c' at hrun
  have hcs':c'.size=c.size:=by rw [← hc']; simp; omega
  have hrowb:(w.setRow b c').heap[b]? = some (.cells c' T (0,0)):=setRow_heap _ _ _ _ _ _ hc
  have hc'out:∀ o,o<e→c'[o]? = c[o]?:=by
   intro o ho
   have hte:(c.toList.take e).length=e:=by simp; omega
   rw [← hc',List.append_assoc]
   simp only [List.getElem?_toArray]
   rw [List.getElem?_append_left (by omega),List.getElem?_take,if_pos ho]
   simp
  obtain ⟨h5,h6⟩:=INV.one (w':=w.setRow b c') (κ':=κ.pend id (m+1) b oo κ.M (e+f * i.size)) (σ':=σ.set id (.pt (m+1) i.size es zz)) hi id (.pt (m+1) i.size es zz) (by omega) (by simp; omega) (dC hidlt) (fun j hj=>cA hj)
   hE' (hgt _ _ _ _) (by rw [oP]; exact Nat.le_refl _) (fun b' hb' hno=>setRow_other _ _ _ _ (fun e=>hno (by rw [hown,e])))
   (fun b' hb' hno o=>rfl)
   (by
    refine ⟨by simp [Kn.pend],hke,⟨c',T,by simp only [Kn.pend,if_true]; exact hrowb,hzl,?_,c.toList.take e,c.toList.drop (e+news.length),news,?_,?_,?_,hsrc.one⟩,fun o ho=>?_⟩
    ·simp only [Kn.pend,if_true]
     by_cases hne:es=[]
     ·subst hne; simp [RelE]
     ·obtain ⟨b1,o1,hbo,hE1⟩:=hE hne
      cases hbo
      have hesz:esz'=i.size:=by
       cases es with
       | nil=>exact absurd rfl hne
       | cons e1 r1 =>
        simp only [RelE] at hE1
        have:=hxlen e1 (by simp)
        omega
      subst hesz
      exact RelE.mono hE' _ _ _ _ (bp (Nat.zero_le _) _ hb1) hE1
    ·rw [← hc']
    ·simp only [Kn.pend,if_true]; simp; omega
    ·exact RelL.mono hE' _ _ (br (Nat.zero_le _) _ hb2) hnews
    ·simp only [Kn.pend,if_true] at ho ⊢
     exact hMn o (by omega))
   (fun b' hb'=>by
    simp only [ee,Kn.pend,if_true,Option.some.injEq] at hb'
    subst hb'; exact .inl hown)
   (fun b' o v hm=>by
    simp only [Kn.pend] at hm
    by_cases hb:b'=b
    ·subst hb
     have hlt:o<e:=by
      rcases Nat.lt_or_ge o e with h'|h'
      ·exact h'
      ·rw [hMn o h'] at hm; cases hm
     have:=hi.mem _ _ _ hm
     rw [bU hrowb,hc'out o hlt]
     rwa [bU hc] at this
    ·rw [cell_setRow_other _ _ _ _ (by simpa using hb)]; exact hi.mem _ _ _ hm)
   (fun b' hcap'=>by
    simp only [Kn.pend] at hcap' ⊢
    split at hcap'
    ·rename_i h; subst h
     rw [if_pos rfl]
     refine ⟨c',T,(0,0),hrowb,?_⟩
     rcases Nat.eq_zero_or_pos (κ.cap b') with h0|h0
     ·rw [h0]; omega
     ·obtain ⟨d,T',fr,hd,hsz'⟩:=hi.cap b' h0
      rw [hc] at hd; cases hd
      omega
    ·rename_i h; rw [if_neg h]
     obtain ⟨d,T',fr,hd,hsz'⟩:=hi.cap b' hcap'
     exact ⟨d,T',fr,by rw [setRow_other _ _ _ _ h]; exact hd,hsz'⟩)
   (fp (Nat.zero_le _) _ hbz) (fun _ _ _=>fp (Nat.zero_le _) _ hbz) rfl rfl rfl
  refine ⟨_,_,.slice (some ⟨b,oo,none⟩) (es.length+1) (es.length+f),.inl ?_,⟨by simp [Kn.pend],_,_,rfl,by omega,fun _ hcp=>?_⟩,by simpa [below] using hidlt,h5,h6,by simp⟩
  ·simp [execOp,ho,resolve,invoke,builtin,hxv,hrun]
  ·simp only [Kn.pend,if_true,hke]
   refine ⟨by simp,?_⟩
   rw [Nat.zero_add,Nat.add_mul]; omega
end
end Go.Ev

namespace Go.Ev
variable [CodeRel]
theorem DL (off:Nat):∀ (l:List Value) (k:Nat) (cs:Array Value),off+k+l.length≤cs.size →
  ((l.zipIdx k).foldl (fun cs (p:Value×Nat)=>cs.setIfInBounds (off+p.2) p.1) cs).toList=cs.toList.take (off+k)++l++cs.toList.drop (off+k+l.length)
 | [],k,cs,h=>by simp
 | x::r,k,cs,h=>by
  simp only [List.zipIdx_cons,List.foldl_cons,List.length_cons] at *
  rw [DL off r (k+1) _ (by simp; omega)]
  have hl:(off+k)<cs.toList.length:=by simp; omega
  simp only [Array.toList_setIfInBounds]
  rw [show off+(k+1)=off+k+1 by omega,show off+k+1+r.length=off+k+(r.length+1) by omega]
  rw [List.drop_set_of_lt (by omega)]
  rw [List.take_set]
  have:(cs.toList.take (off+k+1))=cs.toList.take (off+k)++[cs.toList[off+k]]:=by
   rw [List.take_succ_eq_append_getElem hl]
  rw [this,List.set_append_right _ _ (by simp; omega)]
  have hm:off+k - (cs.toList.take (off+k)).length=0:=by rw [List.length_take]; omega
  rw [hm]
  simp [List.append_assoc]
theorem DM {place:Nat→Option (Nat×Nat)} {cells:Array Value} {i off size:Nat} {v:Value} {rest:List (Nat×Value)} (hp:place i=some (off,size)) (hs:v.cells.size=size) (hle:off+size≤cells.size) :
  Instr.fill place cells ((i,v)::rest)=Instr.fill place (cells.toList.take off++v.cells.toList++cells.toList.drop (off+v.cells.size)).toArray rest:=by
 rw [Instr.fill,hp]
 simp only
 rw [if_neg (by simp [hs]; omega)]
 congr 1
 apply Array.ext'
 have h:=DL off v.cells.toList 0 cells (by simp; omega)
 simp only [Nat.add_zero] at h
 rw [← Array.foldl_toList,Array.toList_zipIdx]
 simpa using h
theorem RelL.replicate {κ:Kn} {l:List PV} {x:List Value} (h:RelL κ l x):∀ n,RelL κ (List.replicate n l).flatten (List.replicate n x).flatten
 | 0=>by simp [RelL]
 | n+1=>by simp only [List.replicate_succ,List.flatten_cons]; exact RelL.append h (RelL.replicate h n)
theorem qb (z:Array Value):∀ n,((Array.range (n * z.size)).map (z[· % z.size]!)).toList=(List.replicate n z.toList).flatten
 | 0=>by simp
 | n+1=>by
  have ih:=qb z n
  simp only [Array.toList_map,Array.toList_range] at ih ⊢
  rw [Nat.succ_mul,List.range_add,List.map_append,ih,List.replicate_succ',List.flatten_append]
  congr 1
  simp only [List.flatten_cons,List.flatten_nil,List.append_nil,List.map_map]
  apply List.ext_getElem (by simp)
  intro j h1 h2
  simp only [List.getElem_map,List.getElem_range,Function.comp]
  have hj:j<z.size:=by simpa using h2
  rw [Nat.add_comm,Nat.add_mul_mod_self_right,Nat.mod_eq_of_lt hj,getElem!_pos z j hj]
  simp
def wz (P:Program) (t:TypeId):Option (Array Value×(Nat→Option (Nat×Nat))) :=
 match P.info? t,P.underlying t with
 | some it,some (.array _ e) =>
  match it.zero,P.info? e with
  | some z,some ie=>some (z.cells,fun i=>some (i * ie.size,ie.size))
  | _,_=>none
 | some it,some (.struct fields) =>
  match it.zero,fields.toList.mapM (fun f=>(P.info? f.type).map fun i=>(f.offset,i.size)) with
  | some z,some places=>some (z.cells,(places.toArray[·]?))
  | _,_=>none
 | _,_=>none
theorem Lw {P:Program} {t:TypeId} {z:Array Value} {pl:Nat→Option (Nat×Nat)} (h:wz P t=some (z,pl)) (parts:List (Nat×Value)):P.built t parts=Instr.fill pl z parts:=by
 unfold wz at h
 unfold Program.built
 cases h1:P.info? t with
 | none=>rw [h1] at h; cases h
 | some it =>
  cases h2:P.underlying t with
  | none=>rw [h1,h2] at h; cases h
  | some d =>
   rw [h1,h2] at h
   cases d<;>simp only [reduceCtorEq] at h
   ·split at h
    ·rename_i hz hie
     cases h
     simp only [hz,hie]
    ·cases h
   ·split at h
    ·rename_i hz hie
     cases h
     simp only [hz,hie]
    ·cases h
def qj (pl:Nat→Option (Nat×Nat)):List (Nat×Nat×Opd)→List (Nat×Operand)→Bool
 | [],[]=>true
 | (off,sz,x)::r,(i,y)::s=>(match pl i with|some (o,n)=>o == off && n == sz|none=>false) && aJ x y && qj pl r s
 | _,_=>false
section
variable {P:Program} {bars:List Nat} {κ:Kn} {σ:Sto} {w:World} {env:Env} {a:Act} {o:Oper} {r:OpR}
theorem AT (he:ENV κ σ.length env a.tmps) {pl:Nat→Option (Nat×Nat)}:∀ {parts:List (Nat×Nat×Opd)} {parts':List (Nat×Operand)} {ps:List (Nat×Nat×PV)} {acc cs:List PV} {cells:Array Value},
  qj pl parts parts'=true→evq env parts=some ps→DD acc ps=some cs→RelL κ acc cells.toList→(∀ v∈cells.toList,v.oneCell'=true)→below.belowAll σ.length acc=true →
  ∃ cells',Instr.fill pl cells (parts'.map fun p=>(p.1,a.eval p.2))=some cells'∧RelL κ cs cells'.toList∧(∀ v∈cells'.toList,v.oneCell'=true)∧below.belowAll σ.length cs=true
 | [],[],ps,acc,cs,cells,_,hq,hf,h1,h2,h3=>by
  simp only [evq,Option.some.injEq] at hq; subst hq
  simp only [DD,Option.some.injEq] at hf; subst hf
  exact ⟨cells,rfl,h1,h2,h3⟩
 | [],_::_,_,_,_,_,hc,_,_,_,_,_=>by simp [qj] at hc
 | _::_,[],_,_,_,_,hc,_,_,_,_,_=>by simp [qj] at hc
 | (off,sz,x)::r,(i,y)::s,ps,acc,cs,cells,hc,hq,hf,h1,h2,h3=>by
  simp only [qj,Bool.and_eq_true] at hc
  obtain ⟨⟨hp,hx⟩,hcs⟩:=hc
  simp only [evq,Option.bind_eq_some_iff,Option.some.injEq] at hq
  obtain ⟨v,hv,vs,hvs,rfl⟩:=hq
  simp only [DD] at hf
  split at hf
  ·rename_i hlen
   simp only [Option.bind_eq_some_iff] at hf
   obtain ⟨acc',hput,hf⟩:=hf
   obtain ⟨hle,rfl⟩:=sK hput
   obtain ⟨h4,h5⟩:=aA he hx hv
   have hnr:=RelV.norm v _ h4
   have hnok:=wu hlen.2
   obtain ⟨h6,h7⟩:=hnr.cells hnok
   have hns:=jE hnr hnok
   have hos:=jE h4 hlen.2
   have hal:=h1.length
   simp only [Array.length_toList] at hal
   have hpl:pl i=some (off,sz):=by
    split at hp
    ·simp only [Bool.and_eq_true,beq_iff_eq] at hp
     obtain ⟨rfl,rfl⟩:=hp; assumption
    ·cases hp
   rw [List.map_cons,DM (v:=a.eval y) hpl (by omega) (by omega)]
   refine AT he hcs hvs hf ?_ ?_ ?_
   ·have:=RelL.put (off:=off) h1 h6
    simpa using this
   ·intro u hu
    simp only [List.mem_append] at hu
    rcases hu with (hu|hu)|hu
    ·exact h2 u (List.mem_of_mem_take hu)
    ·exact h7 u hu
    ·exact h2 u (List.mem_of_mem_drop hu)
   ·simp only [cE,Bool.and_eq_true]
    exact ⟨⟨dg fun p hp=>bR h3 (List.mem_of_mem_take hp),jZ (jD v h5)⟩,dg fun p hp=>bR h3 (List.mem_of_mem_drop hp)⟩
  ·cases hf
theorem FY (hi:INV bars κ σ w) (he:ENV κ σ.length env a.tmps) {zero:List PV} {parts:List (Nat×Nat×Opd)} {parts':Array (Nat×Operand)} {t:TypeId} {z:Array Value} {pl:Nat→Option (Nat×Nat)} (hpl:wz P t=some (z,pl)) (hc:qj pl parts parts'.toList=true)
  (hz:tN zero z.toList=true) (h1:z.toList.all Value.oneCell'=true) (ho:o.op=.build t parts') (hr:opE bars env σ (.build zero parts)=some r):OpOK bars κ σ w ((execOp a.eval o).run P w) r:=by
 simp only [opE,Option.bind_eq_some_iff,Option.some.injEq] at hr
 obtain ⟨ps,hps,cs,hcs,rfl⟩:=hr
 obtain ⟨h2,h3⟩:=gZ κ σ.length zero _ hz
 obtain ⟨cells',h4,h5,h6,h7⟩:=AT he hc hps hcs h2 (List.all_eq_true.1 h1) h3
 have hrun:=run_build (P:=P) w t (parts'.map fun p=>(p.1,a.eval p.2)) cells' (by rw [Lw hpl,Array.toList_map]; exact h4)
 exact aL hi (x:=.agg cells') (by simp [execOp,ho,hrun]) ⟨_,rfl,h5,h6⟩ (by simpa [below] using h7)
def jh:List (Nat×Opd)→List (Nat×Operand)→Bool
 | [],[]=>true
 | (j,x)::r,(i,y)::s=>j == i && aJ x y && jh r s
 | _,_=>false
theorem xH (he:ENV κ σ.length env a.tmps) {esz:Nat}:∀ {parts:List (Nat×Opd)} {parts':List (Nat×Operand)} {ps:List (Nat×PV)} {acc es:List (List PV)} {cells:Array Value},
  jh parts parts'=true→evp env parts=some ps→Em esz acc ps=some es→(∀ e∈acc,e.length=esz)→RelL κ acc.flatten cells.toList→(∀ v∈cells.toList,v.oneCell'=true)→below.belowEs 0 acc=true →
  ∃ cells',Instr.fill (fun i=>some (i * esz,esz)) cells (parts'.map fun p=>(p.1,a.eval p.2))=some cells'∧RelL κ es.flatten cells'.toList∧(∀ v∈cells'.toList,v.oneCell'=true)∧below.belowEs 0 es=true∧(∀ e∈es,e.length=esz)∧es.length=acc.length
 | [],[],ps,acc,es,cells,_,hq,hf,hk,h1,h2,h3=>by
  simp only [evp,Option.some.injEq] at hq; subst hq
  simp only [Em,Option.some.injEq] at hf; subst hf
  exact ⟨cells,rfl,h1,h2,h3,hk,rfl⟩
 | [],_::_,_,_,_,_,hc,_,_,_,_,_,_=>by simp [jh] at hc
 | _::_,[],_,_,_,_,hc,_,_,_,_,_,_=>by simp [jh] at hc
 | (j,x)::r,(i,y)::s,ps,acc,es,cells,hc,hq,hf,hk,h1,h2,h3=>by
  simp only [jh,Bool.and_eq_true,beq_iff_eq] at hc
  obtain ⟨⟨rfl,hx⟩,hcs⟩:=hc
  simp only [evp,Option.bind_eq_some_iff,Option.some.injEq] at hq
  obtain ⟨v,hv,vs,hvs,rfl⟩:=hq
  simp only [Em] at hf
  split at hf
  ·rename_i hlen
   obtain ⟨hj,hlen,hok,hb0⟩:=hlen
   obtain ⟨h4,h5⟩:=aA he hx hv
   have hnr:=RelV.norm v _ h4
   have hnok:=wu hok
   obtain ⟨h6,h7⟩:=hnr.cells hnok
   have hns:=jE hnr hnok
   have hos:=jE h4 hok
   have hal:=h1.length
   rw [qi hk] at hal
   simp only [Array.length_toList] at hal
   have hmul:(j+1) * esz≤acc.length * esz:=Nat.mul_le_mul_right _ hj
   rw [Nat.succ_mul] at hmul
   rw [List.map_cons,DM (v:=a.eval y) (off:=j * esz) (size:=esz) rfl (by omega) (by omega)]
   have hge:acc[j]? = some acc[j]:=List.getElem?_eq_getElem hj
   have hel:(acc[j]).length=esz:=hk _ (List.getElem_mem hj)
   have hset:=AO (es:=acc) (j:=j) (e:=acc[j]) (e':=Ev.cells (Ev.norm v)) hk hge (off:=0) (xs:=Ev.cells (Ev.norm v)) (by omega) (by
    have:(acc[j]).drop (0+(Ev.cells (Ev.norm v)).length)=[]:=List.drop_eq_nil_of_le (by omega)
    rw [this]; simp)
   simp only [Nat.add_zero] at hset
   obtain ⟨cells',g1,g2,g3,g4,g5,g6⟩:=xH he hcs hvs hf (cells:=(cells.toList.take (j * esz)++(a.eval y).cells.toList++cells.toList.drop (j * esz+(a.eval y).cells.size)).toArray) (fun e he=>by
     rcases List.mem_or_eq_of_mem_set he with h|h
     ·exact hk e h
     ·subst h; omega)
    (by rw [hset]; simpa using RelL.put (off:=j * esz) h1 h6)
    (fun u hu=>by
     simp only [List.mem_append] at hu
     rcases hu with (hu|hu)|hu
     ·exact h2 u (List.mem_of_mem_take hu)
     ·exact h7 u hu
     ·exact h2 u (List.mem_of_mem_drop hu))
    (gK fun e he=>by
     rcases List.mem_or_eq_of_mem_set he with h|h
     ·exact jF h3 h
     ·subst h; exact jZ hb0)
   exact ⟨cells',g1,g2,g3,g4,g5,by rw [g6,List.length_set]⟩
  ·cases hf
theorem INV.know (hi:INV bars κ σ w) {w':World} {row:Array Value} {T:TypeId} (hw:w'.heap=w.heap.push (.cells row T)) (h1:w'.os=w.os) (h2:w'.output=w.output) (h3:w'.tape=w.tape) :
  INV bars (κ.know w.heap.size row.toList) σ w'∧Kept σ.length κ σ w (κ.know w.heap.size row.toList) σ w'∧Ext σ.length κ (κ.know w.heap.size row.toList):=by
 have hfresh:∀ o,κ.M w.heap.size o=none:=hi.M_fresh (Nat.le_refl _)
 have hext:Ext σ.length κ (κ.know w.heap.size row.toList):=by
  refine ⟨fun _ _ _=>rfl,fun _ _=>rfl,fun _ _=>Nat.le_refl _,fun _ _ _=>rfl,fun b o v hm=>?_,fun _=>Nat.le_refl _⟩
  simp only [Kn.know]
  rw [if_neg (by rintro rfl; rw [hfresh] at hm; cases hm)]
  exact hm
 obtain ⟨h5,h6⟩:=INV.more (w':=w') (κ':=κ.know w.heap.size row.toList) hi hext (fun _ _=>rfl) (by simp [hw]) (fun b hb=>by rw [hw]; exact aW hb)
  (fun b hb o=>by simp only [Kn.know]; rw [if_neg (by omega)]) (fun b o v hm=>by
   simp only [Kn.know] at hm
   split at hm
   ·rename_i hb; subst hb
    have:w'.heap[w.heap.size]? = some (.cells row T (0,0)):=by simp [hw]
    rw [bU this]; simpa using hm
   ·have hlt:=oc (hi.mem b o v hm)
    have:=hi.mem b o v hm
    simp only [World.cell?,hw,aW hlt] at this ⊢
    exact this) (fun b hb=>by
   obtain ⟨c,T,fr,h,hsz⟩:=hi.cap b hb
   exact ⟨c,T,fr,by rw [hw,aW (Array.getElem?_eq_some_iff.1 h).1]; exact h,hsz⟩) h1 h2 h3
 exact ⟨h5,h6,hext⟩
theorem Ez (hi:INV bars κ σ w) (he:ENV κ σ.length env a.tmps) {esz len:Nat} {zero:List PV} {parts:List (Nat×Opd)} {parts':Array (Nat×Operand)} {t elem:TypeId} {i:TypeInfo} {z:Value} (hc:jh parts parts'.toList=true)
  (ht:P.underlying t=some (.slice elem)) (hei:P.info? elem=some i) (hs:i.size=esz) (hz:i.zero=some z) (hzs:z.cells.size=esz) (hzz:tN zero z.cells.toList=true) (h1:z.cells.toList.all Value.oneCell'=true) (hsmall:len * esz≤2 ^ 24) (hpos:0<esz) (hlen:len=0→parts=[])
  (ho:o.op=.buildSlice t len parts') (hr:opE bars env σ (.bslice esz len zero parts)=some r):OpOK bars κ σ w ((execOp a.eval o).run P w) r:=by
 simp only [opE,Option.bind_eq_some_iff] at hr
 obtain ⟨ps,hps,hr⟩:=hr
 split at hr
 ·rename_i hzl
  simp only [Option.bind_eq_some_iff,Option.some.injEq] at hr
  obtain ⟨es,hes,rfl⟩:=hr
  obtain ⟨h2,h3⟩:=gZ κ 0 zero _ hzz
  subst hs
  have hmade:=qb z.cells len
  rw [hzs] at hmade
  obtain ⟨cells',g1,g2,g3,g4,g5,g6⟩:=xH he (cells:=(Array.range (len * i.size)).map (z.cells[· % z.cells.size]!)) hc hps hes (fun e he=>by rw [List.eq_of_mem_replicate he]; exact hzl)
   (by rw [hzs,hmade]; exact RelL.replicate h2 len) (fun v hv=>by
    rw [hzs,hmade] at hv
    obtain ⟨l,hl,hv⟩:=List.mem_flatten.1 hv
    rw [List.eq_of_mem_replicate hl] at hv
    exact List.all_eq_true.1 h1 v hv) (gK fun e he=>by rw [List.eq_of_mem_replicate he]; exact h3)
  simp only [List.length_replicate] at g6
  have hrun:(Instr.buildSlice t len (parts'.map fun p=>(p.1,a.eval p.2))).run P w=.ok (.slice (some ⟨w.heap.size,0,none⟩) len len) (w.alloc (.cells cells' elem)):=by
   by_cases h0:len=0
   ·subst h0
    have hp0:=hlen rfl
    subst hp0
    have:parts'=#[]:=by
     cases hpl:parts'.toList with
     | nil=>exact Array.toList_eq_nil_iff.1 hpl
     | cons x r=>rw [hpl] at hc; obtain ⟨i,y⟩:=x; simp [jh] at hc
    subst this
    have hc0:cells'=#[]:=by
     have:es=[]:=List.eq_nil_of_length_eq_zero g6
     subst this
     simp only [List.flatten_nil,RelL] at g2
     exact Array.toList_eq_nil_iff.1 g2
    subst hc0
    simp [Instr.buildSlice,run_underlying ht,sizeOf,typeInfo,hei,Instr.fill,newRow,Array.range_zero']
   ·exact run_buildSlice w t elem len _ cells' i z ht hei hz (by omega) (by have:=Nat.mul_pos (Nat.pos_of_ne_zero h0) hpos; omega) (by rw [Array.toList_map]; exact g1)
  obtain ⟨h5,h6,h7⟩:=INV.know (w':=w.alloc (.cells cells' elem)) hi rfl rfl rfl rfl
  refine ⟨_,_,.slice (some ⟨w.heap.size,0,none⟩) len len,.inl (by simp [execOp,ho,hrun]),⟨_,_,i.size,by rw [g6],by rw [g6]; exact Nat.le_refl _,fun _=>g6.symm,fun _=>⟨_,_,rfl,?_⟩⟩,by simp only [below]; exact bp (Nat.zero_le _) _ g4,h5,h6,Nat.le_refl _⟩
  exact uT (all:=cells'.toList) g5 g2 g3 (bp (Nat.zero_le _) _ g4) h7 fun o=>by simp [Kn.know]
 ·cases hr
end
end Go.Ev

namespace Go.Ev
variable [CodeRel]
open Go.MapKept
theorem mf (w:World) (o:Obj):(w.alloc o).heap[w.heap.size]? = some o:=by show (w.heap.push o)[_]? = _; simp
section
variable {P:Program} {bars:List Nat} {κ:Kn} {σ:Sto} {w:World} {env:Env} {a:Act} {o:Oper} {r:OpR}
theorem INV.push_ob (hi:INV bars κ σ w) {w':World} {obj:Obj} {ob:Ob} {κ':Kn} (hw:w'.heap=w.heap.push obj) (h1:w'.os=w.os) (h2:w'.output=w.output) (h3:w'.tape=w.tape)
  (he:Ext σ.length κ κ') (hgen:∀ j,j<σ.length→κ'.gen j=κ.gen j) (hM:κ'.M=κ.M) (hcap:∀ b,0<κ'.cap b→0<κ.cap b∧κ'.cap b=κ.cap b∨b=w.heap.size∧∃ c T fr,obj=.cells c T fr∧κ'.cap b≤c.size)
  (hob:obRel κ' w' σ.length ob) (hblk:∀ b,ee κ' σ.length ob=some b→b=w.heap.size) (hwf:ba (σ.length+1) ob=true) :
  INV bars κ' (σ++[ob]) w'∧Kept σ.length κ σ w κ' (σ++[ob]) w':=by
 have hget:(σ++[ob])[σ.length]? = some ob:=by simp
 refine INV.one hi σ.length ob (Nat.le_refl _) (by simp) hget (fun j hj=>?_) he (fun j hj _=>hgen j hj) (by simp [hw]) (fun b hb _=>by rw [hw]; exact aW hb) (fun b _ _ o=>by rw [hM]) hob
  (fun b hb=>.inr (by rw [hblk b hb]; exact Nat.le_refl _)) (fun b o v hm=>?_) (fun b hb=>?_) (by simpa using hwf) (fun n hn hlt=>by have:=(hi.wfb n hn).1; omega) h1 h2 h3
 ·rcases Nat.lt_or_ge j σ.length with h|h
  ·rw [List.getElem?_append_left h]
  ·rw [List.getElem?_eq_none (by simp; omega),List.getElem?_eq_none h]
 ·rw [hM] at hm
  have hlt:=oc (hi.mem b o v hm)
  have:=hi.mem b o v hm
  simp only [World.cell?,hw,aW hlt] at this ⊢
  exact this
 ·rcases hcap b hb with ⟨h4,h5⟩|⟨rfl,c,T,fr,rfl,h4⟩
  ·obtain ⟨c,T,fr,h,hsz⟩:=hi.cap b h4
   exact ⟨c,T,fr,by rw [hw,aW (Array.getElem?_eq_some_iff.1 h).1]; exact h,by omega⟩
  ·exact ⟨c,T,fr,by simp [hw],h4⟩
theorem INV.cap_fresh (hi:INV bars κ σ w):κ.cap w.heap.size=0:=by
 rcases Nat.eq_zero_or_pos (κ.cap w.heap.size) with h|h
 ·exact h
 ·obtain ⟨d,T',fr,hd,-⟩:=hi.cap _ h
  have:=(Array.getElem?_eq_some_iff.1 hd).1
  omega
theorem EA (hi:INV bars κ σ w) (he:ENV κ σ.length env a.tmps) {esz:Nat} {zero:List PV} {l:Opd} {l' c':Operand} {t elem:TypeId} {i:TypeInfo} {z:Value} (hl:aJ l l'=true) (hc:aJ l c'=true)
  (ht:P.underlying t=some (.slice elem)) (hei:P.info? elem=some i) (hs:i.size=esz) (hz:i.zero=some z) (hzs:z.cells.size=esz) (hzz:tN zero z.cells.toList=true) (h1:z.cells.toList.all Value.oneCell'=true) (hby:i.bytes≤32768) (hpos:0<esz)
  (ho:o.op=.makeSlice t l' c') (hr:opE bars env σ (.mslice esz zero l)=some r):OpOK bars κ σ w ((execOp a.eval o).run P w) r:=by
 simp only [opE] at hr
 split at hr
 ·rename_i n hv
  split at hr
  ·rename_i hn
   obtain ⟨hn0,hnl,hzl⟩:=hn
   cases hr
   obtain ⟨h2,-⟩:=aA he hl hv
   obtain ⟨h3,-⟩:=aA he hc hv
   simp only [RelV] at h2 h3
   obtain ⟨h4,h5⟩:=gZ κ 0 zero _ hzz
   subst hs
   obtain ⟨m,rfl⟩:∃ m:Nat,n=m:=⟨n.toNat,by omega⟩
   have hml:m≤LIM:=by omega
   have hb:=fits hml hby
   have hrun:=run_make (P:=P) w t elem i z ht hei hz .i64 .i64 m m (by omega) (by omega) (by rw [Int.mul_comm]; omega) (by unfold LIM at hml; omega)
   have hmade:=qb z.cells m
   simp only [Int.toNat_natCast] at hrun
   have hmd:(madeCells z.cells (m * i.size)).toList=(List.replicate m z.cells.toList).flatten:=by unfold madeCells; rw [← hzs]; exact hmade
   have hcf:=hi.cap_fresh
   let κ':Kn:={ κ with ρ:=fun j=>if j=σ.length then (w.heap.size,0) else κ.ρ j,gen:=fun j=>if j=σ.length then 0 else κ.gen j,esz:=fun j=>if j=σ.length then i.size else κ.esz j,cap:=fun b=>if b=w.heap.size then m * i.size else κ.cap b }
   have hext:Ext σ.length κ κ':=by
    refine ⟨fun j hj _=>?_,fun j hj=>?_,fun j hj=>?_,fun _ _ _=>rfl,fun _ _ _ h=>h,fun b=>?_⟩
    ·simp only [κ']; rw [if_neg (by omega)]
    ·simp only [κ']; rw [if_neg (by omega)]
    ·simp only [κ']; rw [if_neg (by omega)]; exact Nat.le_refl _
    ·simp only [κ']; split
     ·rename_i h; subst h; omega
     ·exact Nat.le_refl _
   obtain ⟨h6,h7⟩:=INV.push_ob (w':=w.alloc (.cells (madeCells z.cells (m * i.size)) elem)) (ob:=.arr 0 i.size (List.replicate m zero)) (κ':=κ') hi rfl rfl rfl rfl hext (fun j hj=>by simp only [κ']; rw [if_neg (by omega)]) rfl
    (fun b hb=>by
     simp only [κ'] at hb ⊢
     split at hb
     ·rename_i h; subst h
      exact .inr ⟨rfl,_,_,_,rfl,by simp [size_madeCells]⟩
     ·rename_i h; rw [if_neg h]; exact .inl ⟨hb,rfl⟩)
    (by
     refine ⟨by simp [κ'],by simp [κ'],⟨madeCells z.cells (m * i.size),elem,by simp only [κ',if_true]; exact mf _ _,fun e he=>by rw [List.eq_of_mem_replicate he]; exact hzl,fun v hv=>?_,[],[],(List.replicate m z.cells.toList).flatten,by simpa using hmd,by simp [κ'],?_⟩,fun o _=>?_⟩
     ·rw [hmd] at hv
      obtain ⟨l,hl,hv⟩:=List.mem_flatten.1 hv
      rw [List.eq_of_mem_replicate hl] at hv
      exact List.all_eq_true.1 h1 v hv
     ·exact RelL.replicate (RelL.mono hext _ _ (br (Nat.zero_le _) _ h5) h4) m
     ·simp only [κ',if_true]; exact hi.M_fresh (Nat.le_refl _) o)
    (fun b hb=>by simp only [ee,κ',if_true,Option.some.injEq] at hb; exact hb.symm)
    (by simp only [ba]; exact gK fun e he=>by rw [List.eq_of_mem_replicate he]; exact h5)
   refine ⟨_,_,.slice (some ⟨w.heap.size,0,none⟩) m m,.inl ?_,⟨by simp [κ'],_,_,rfl,by simp,fun _ hm=>?_⟩,by simp [below],h6,h7,by simp⟩
   ·simp [execOp,ho,h2,h3,hrun]
   ·simp [κ']
  ·cases hr
 ·cases hr
theorem HJ (hi:INV bars κ σ w) (he:ENV κ σ.length env a.tmps) {esz:Nat} {zero:List PV} {l:Opd} {l' c':Operand} {t elem:TypeId} {i:TypeInfo} {z:Value} (hl:aJ l l'=true) (hc:aJ l c'=true)
  (ht:P.underlying t=some (.slice elem)) (hei:P.info? elem=some i) (hs:i.size=esz) (hz:i.zero=some z) (hzs:z.cells.size=esz) (hzz:tN zero z.cells.toList=true) (h1:z.cells.toList.all Value.oneCell'=true) (hby:i.bytes≤32768) (hpos:0<esz)
  (ho:o.op=.makeSlice t l' c') (hr:opE bars env σ (.mslp esz zero l)=some r):OpOK bars κ σ w ((execOp a.eval o).run P w) r:=by
 simp only [opE] at hr
 split at hr
 ·rename_i n hv
  split at hr
  ·rename_i hn
   obtain ⟨hn0,hnl,hzl⟩:=hn
   cases hr
   obtain ⟨h2,-⟩:=aA he hl hv
   obtain ⟨h3,-⟩:=aA he hc hv
   simp only [RelV] at h2 h3
   obtain ⟨h4,h5⟩:=gZ κ 0 zero _ hzz
   subst hs
   obtain ⟨m,rfl⟩:∃ m:Nat,n=m:=⟨n.toNat,by omega⟩
   have hml:m≤LIM:=by omega
   have hb:=fits hml hby
   have hrun:=run_make (P:=P) w t elem i z ht hei hz .i64 .i64 m m (by omega) (by omega) (by rw [Int.mul_comm]; omega) (by unfold LIM at hml; omega)
   have hmade:=qb z.cells m
   simp only [Int.toNat_natCast] at hrun
   have hmd:(madeCells z.cells (m * i.size)).toList=(List.replicate m z.cells.toList).flatten:=by unfold madeCells; rw [← hzs]; exact hmade
   obtain ⟨h6,h7,h8⟩:=INV.know (w':=w.alloc (.cells (madeCells z.cells (m * i.size)) elem)) hi rfl rfl rfl rfl
   simp only [Int.toNat_natCast]
   have g6:(List.replicate m zero).length=m:=List.length_replicate
   have hz0:∀ e∈List.replicate m zero,e.length=i.size:=fun e he=>by rw [List.eq_of_mem_replicate he]; exact hzl
   have hzb:below.belowEs 0 (List.replicate m zero)=true:=gK fun e he=>by rw [List.eq_of_mem_replicate he]; exact h5
   refine ⟨_,_,.slice (some ⟨w.heap.size,0,none⟩) m m,.inl (by simp [execOp,ho,h2,h3,hrun]),⟨_,_,i.size,by rw [g6],by rw [g6]; exact Nat.le_refl _,fun _=>g6.symm,fun _=>⟨_,_,rfl,?_⟩⟩,by simp only [below]; exact bp (Nat.zero_le _) _ hzb,h6,h7,Nat.le_refl _⟩
   refine uT (all:=(madeCells z.cells (m * i.size)).toList) hz0 ?_ (fun v hv=>?_) (bp (Nat.zero_le _) _ hzb) h8 fun o=>by simp [Kn.know]
   ·rw [hmd]; exact RelL.replicate h4 m
   ·rw [hmd] at hv
    obtain ⟨l,hl,hv⟩:=List.mem_flatten.1 hv
    rw [List.eq_of_mem_replicate hl] at hv
    exact List.all_eq_true.1 h1 v hv
  ·cases hr
 ·cases hr
theorem HK (hi:INV bars κ σ w) {t:TypeId} (ho:o.op=.makeMap t none) (hr:opE bars env σ .mmap=some r):OpOK bars κ σ w ((execOp a.eval o).run P w) r:=by
 simp only [opE,Option.some.injEq] at hr
 subst hr
 obtain ⟨h6,h7⟩:=INV.push_ob (w':=w.alloc (.map #[] 0)) (ob:=.mp []) (κ':=κ.at σ.length w.heap.size) hi rfl rfl rfl rfl (Ext.at _ _ _) (fun j hj=>by simp [Kn.at,Nat.ne_of_lt hj]) rfl (fun b hb=>.inl ⟨hb,rfl⟩)
  ⟨by simp [Kn.at],#[],0,by simp only [Kn.at,if_true]; exact mf _ _,by simp [RelEnts],by simp [Born]⟩ (fun b hb=>by simp [ee,Kn.at] at hb; exact hb.symm) rfl
 refine ⟨_,_,.map (some w.heap.size),.inl ?_,⟨_,rfl,by simp [Kn.at],fun _=>?_⟩,by simp [below],h6,h7,by simp⟩
 ·simp [execOp,ho,Instr.makeMap,Result.andThen]
 ·simp [Kn.at]
def js (str:Bool) (d:TypeDesc):Prop:=if str then d=.string else ∃ k,d=.int k
theorem nO {str:Bool} {d:TypeDesc} {x y:Value} {b:Bool} (hd:js str d) (h:mE str x y=some b):Instr.sameNow d y x=some b∧(b=true→x=y)∧(∀ n,Instr.sameBits n y y=true):=by
 unfold mE at h
 split at h
 ·rename_i j m k n
  split at h
  ·rename_i hk
   obtain ⟨rfl,rfl⟩:=hk
   simp only [js,Bool.false_eq_true,if_false] at hd
   obtain ⟨kk,rfl⟩:=hd
   simp only [Option.some.injEq] at h
   subst h
   refine ⟨?_,?_,?_⟩
   ·simp only [Instr.sameNow,if_true,Option.some.injEq]
    rw [qh,Bool.eq_iff_iff]; simp [eq_comm]
   ·simp
   ·intro n; cases n<;>simp [Instr.sameBits]
  ·cases h
 ·rename_i m n
  split at h
  ·rename_i hk
   subst hk
   simp only [js,if_true] at hd
   subst hd
   simp only [Option.some.injEq] at h
   subst h
   refine ⟨?_,?_,?_⟩
   ·simp only [Instr.sameNow,Option.some.injEq]
    rw [Bool.eq_iff_iff,bytes_beq]; simp [eq_comm]
   ·simp
   ·intro n; cases n<;>simp [Instr.sameBits,bytes_beq]
  ·cases h
 ·cases h
theorem sN {str:Bool} {d:TypeDesc} {kt:TypeId} {y:Value} (hk:P.underlying kt=some d) (hd:js str d) (em:Bool) (n:Nat):(Instr.checkKey em (n+1) kt y).run P w=.ok () w:=by
 unfold Instr.checkKey
 simp only [Sem.run_bind,run_underlying hk,Result.andThen]
 unfold js at hd
 split at hd
 ·subst hd; simp
 ·obtain ⟨k,rfl⟩:=hd; simp
theorem FZ {str:Bool} {d:TypeDesc} (hd:js str d) {key:Value}:∀ {m:List (Value×PV)} {l:List MapEntry} {x:Option PV} (i:Nat),RelEnts κ m l→wr str m key=some x →
  (x=none∧Instr.findNow d key l i=some none)∨∃ v u j,x=some v∧Instr.findNow d key l i=some (some (i+j,u))∧RelV κ v u
 | [],l,x,i,hr,h=>by
  simp only [RelEnts] at hr; subst hr
  simp only [wr,Option.some.injEq] at h
  exact .inl ⟨h.symm,rfl⟩
 | (k,v)::m,l,x,i,hr,h=>by
  simp only [RelEnts] at hr
  obtain ⟨e,l',rfl,hk,hv,hr⟩:=hr
  simp only [wr] at h
  split at h
  ·rename_i hq
   cases h
   obtain ⟨h1,h2,-⟩:=nO hd hq
   refine .inr ⟨v,e.val,0,rfl,?_,hv⟩
   simp only [Instr.findNow,hk,h1]; rfl
  ·rename_i hq
   obtain ⟨h1,-,-⟩:=nO hd hq
   rcases FZ hd (i+1) hr h with ⟨h3,h4⟩|⟨v',u,j,h3,h4,h5⟩
   ·exact .inl ⟨h3,by simp only [Instr.findNow,hk,h1]; exact h4⟩
   ·exact .inr ⟨v',u,j+1,h3,by simp only [Instr.findNow,hk,h1]; rw [h4,show i+1+j=i+(j+1) by omega],h5⟩
  ·cases h
theorem F0 {str:Bool} {d:TypeDesc} (hd:js str d) {key:Value} {pv:PV} {val:Value} (cD:RelV κ pv val):∀ {m:List (Value×PV)} {l:List MapEntry} {m':List (Value×PV)} (i:Nat),RelEnts κ m l→rE str m key pv=some m' →
  (∀ n,Instr.sameBits n key key=true)∧((Instr.findNow d key l i=some none∧∀ b,RelEnts κ m' (l++[{ key,val,born:=b }]))∨∃ u j e,Instr.findNow d key l i=some (some (i+j,u))∧l[j]? = some e∧e.key=key∧RelEnts κ m' (l.set j { e with key:=key,val:=val }))
 | [],l,m',i,hr,h=>by
  simp only [RelEnts] at hr; subst hr
  simp only [rE] at h
  split at h
  ·rename_i b hq
   cases h
   obtain ⟨-,-,h3⟩:=nO hd hq
   exact ⟨h3,.inl ⟨rfl,fun b=>⟨_,[],rfl,rfl,cD,rfl⟩⟩⟩
  ·cases h
 | (k,v)::m,l,m',i,hr,h=>by
  simp only [RelEnts] at hr
  obtain ⟨e,l',rfl,hk,hv,hr⟩:=hr
  simp only [rE] at h
  split at h
  ·rename_i hq
   cases h
   obtain ⟨h1,h2,h3⟩:=nO hd hq
   refine ⟨h3,.inr ⟨e.val,0,e,?_,rfl,by rw [hk]; exact h2 rfl,?_⟩⟩
   ·simp only [Instr.findNow,hk,h1]; rfl
   ·exact ⟨_,l',rfl,by rw [h2 rfl],cD,hr⟩
  ·rename_i hq
   simp only [Option.bind_eq_some_iff,Option.some.injEq] at h
   obtain ⟨r',h4,rfl⟩:=h
   obtain ⟨h1,-,h3⟩:=nO hd hq
   refine ⟨h3,?_⟩
   obtain ⟨-,h5⟩:=F0 hd cD (i+1) hr h4
   rcases h5 with ⟨h6,h7⟩|⟨u,j,e',h6,h7,h8,h9⟩
   ·refine .inl ⟨by simp only [Instr.findNow,hk,h1]; exact h6,fun b=>⟨e,_,rfl,hk,hv,h7 b⟩⟩
   ·refine .inr ⟨u,j+1,e',by simp only [Instr.findNow,hk,h1]; rw [h6,show i+1+j=i+(j+1) by omega],by simpa using h7,h8,⟨e,_,rfl,hk,hv,h9⟩⟩
  ·cases h
theorem F1 {str:Bool} {d:TypeDesc} (hd:js str d) {key:Value}:∀ {m:List (Value×PV)} {l:List MapEntry} {m':List (Value×PV)} (i:Nat),RelEnts κ m l→FI str m key=some m' →
  (Instr.findNow d key l i=some none∧RelEnts κ m' l)∨∃ u j,Instr.findNow d key l i=some (some (i+j,u))∧j<l.length∧RelEnts κ m' (l.eraseIdx j)
 | [],l,m',i,hr,h=>by
  simp only [RelEnts] at hr; subst hr
  simp only [FI,Option.some.injEq] at h
  subst h
  exact .inl ⟨rfl,rfl⟩
 | (k,v)::m,l,m',i,hr,h=>by
  simp only [RelEnts] at hr
  obtain ⟨e,l',rfl,hk,hv,hr⟩:=hr
  simp only [FI] at h
  split at h
  ·rename_i hq
   cases h
   obtain ⟨h1,h2,h3⟩:=nO hd hq
   refine .inr ⟨e.val,0,?_,by simp,by simpa using hr⟩
   simp only [Instr.findNow,hk,h1]; rfl
  ·rename_i hq
   simp only [Option.bind_eq_some_iff,Option.some.injEq] at h
   obtain ⟨r',h4,rfl⟩:=h
   obtain ⟨h1,-,h3⟩:=nO hd hq
   rcases F1 hd (i+1) hr h4 with ⟨h6,h7⟩|⟨u,j,h6,h7,h8⟩
   ·exact .inl ⟨by simp only [Instr.findNow,hk,h1]; exact h6,⟨e,_,rfl,hk,hv,h7⟩⟩
   ·exact .inr ⟨u,j+1,by simp only [Instr.findNow,hk,h1]; rw [h6,show i+1+j=i+(j+1) by omega],by simp; omega,⟨e,_,rfl,hk,hv,h8⟩⟩
  ·cases h
theorem AU {str:Bool} {n:Nat} {key:Value} {v:PV}:∀ {m:List (Value×PV)},(m.all fun p=>below n p.2)=true→wr str m key=some (some v)→below n v=true
 | [],_,h=>by simp [wr] at h
 | (k,x)::m,hb,h=>by
  simp only [List.all_cons,Bool.and_eq_true] at hb
  simp only [wr] at h
  split at h
  ·cases h; exact hb.1
  ·exact AU hb.2 h
  ·cases h
theorem AV {str:Bool} {n:Nat} {key:Value} {v:PV} (hv:below n v=true):∀ {m m':List (Value×PV)},(m.all fun p=>below n p.2)=true→rE str m key v=some m'→(m'.all fun p=>below n p.2)=true
 | [],m',_,h=>by
  simp only [rE] at h
  split at h
  ·cases h; simp [hv]
  ·cases h
 | (k,x)::m,m',hb,h=>by
  simp only [List.all_cons,Bool.and_eq_true] at hb
  simp only [rE] at h
  split at h
  ·cases h; simp only [List.all_cons,Bool.and_eq_true]; exact ⟨hv,hb.2⟩
  ·simp only [Option.bind_eq_some_iff,Option.some.injEq] at h
   obtain ⟨r',h4,rfl⟩:=h
   simp only [List.all_cons,Bool.and_eq_true]; exact ⟨hb.1,AV hv hb.2 h4⟩
  ·cases h
theorem AW {str:Bool} {n:Nat} {key:Value}:∀ {m m':List (Value×PV)},(m.all fun p=>below n p.2)=true→FI str m key=some m'→(m'.all fun p=>below n p.2)=true
 | [],m',_,h=>by simp [FI] at h; subst h; rfl
 | (k,x)::m,m',hb,h=>by
  simp only [List.all_cons,Bool.and_eq_true] at hb
  simp only [FI] at h
  split at h
  ·cases h; exact hb.2
  ·simp only [Option.bind_eq_some_iff,Option.some.injEq] at h
   obtain ⟨r',h4,rfl⟩:=h
   simp only [List.all_cons,Bool.and_eq_true]; exact ⟨hb.1,AW hb.2 h4⟩
  ·cases h
theorem EB (hi:INV bars κ σ w) (he:ENV κ σ.length env a.tmps) {str:Bool} {zero:PV} {m key:Opd} {ok:Bool} {m' key':Operand} {t kt et:TypeId} {d:TypeDesc} {i:TypeInfo} {z:Value} (hm:aJ m m'=true) (hk:aJ key key'=true)
  (ht:P.underlying t=some (.map kt et)) (hkt:P.underlying kt=some d) (hd:js str d) (hei:P.info? et=some i) (hz:i.zero=some z) (hzz:eqC zero z=true)
  (ho:o.op=.lookup t m' key' ok) (hr:opE bars env σ (.lookup str zero m key ok)=some r):OpOK bars κ σ w ((execOp a.eval o).run P w) r:=by
 simp only [opE] at hr
 split at hr
 ·rename_i id kv hmv hkv
  split at hr
  ·rename_i l hs
   simp only [Option.bind_eq_some_iff,Option.some.injEq] at hr
   obtain ⟨x,hx,rfl⟩:=hr
   obtain ⟨⟨q,h1,-,h1'⟩,-⟩:=aA he hm hmv
   obtain ⟨h2,-⟩:=aA he hk hkv
   simp only [RelV] at h2
   obtain ⟨hg,es,clock,hc,hre,hbo⟩:=hi.obs id _ hs
   have hq:=h1' hg
   subst hq
   obtain ⟨hz1,hz2⟩:=tZ κ σ.length zero z hzz
   have hbl:∀ v,x=some v→below σ.length v=true:=fun v hv=>AU (n:=σ.length) (by
    have:=hi.wf _ _ hs
    simp only [ba,List.all_eq_true] at this ⊢
    exact fun p hp=>bk (Nat.zero_le _) _ (this p hp)) (by rw [← hv]; exact hx)
   have hgo:=run_getObj_map (P:=P) hc
   have hck:=sN (P:=P) (w:=w) (y:=kv) hkt hd es.isEmpty 9999
   rcases FZ hd 0 hre hx with ⟨rfl,hf⟩|⟨v,u,j,rfl,hf,hv⟩
   ·have hfk:=run_findKey (w:=w) hkt hf
    refine aL hi (x:=if ok then .tuple #[z,.bool false] else z) ?_ ?_ ?_
    ·simp [execOp,ho,h1,h2,Instr.lookup,run_underlying ht,hgo,hck,hfk,zeroValue,typeInfo,hei,hz]
    ·cases ok
     ·simpa using hz1
     ·exact ⟨_,rfl,⟨_,_,rfl,hz1,⟨_,_,rfl,rfl,rfl⟩⟩⟩
    ·cases ok
     ·simpa using hz2
     ·simp [below,below.belowAll,hz2]
   ·have hfk:=run_findKey (w:=w) hkt hf
    have hb:=hbl v rfl
    refine aL hi (x:=if ok then .tuple #[u,.bool true] else u) ?_ ?_ ?_
    ·simp [execOp,ho,h1,h2,Instr.lookup,run_underlying ht,hgo,hck,hfk]
    ·cases ok
     ·simpa using hv
     ·exact ⟨_,rfl,⟨_,_,rfl,hv,⟨_,_,rfl,rfl,rfl⟩⟩⟩
    ·cases ok
     ·simpa using hb
     ·simp [below,below.belowAll,hb]
  ·cases hr
 ·cases hr
theorem Born.push {es:Array MapEntry} {clock:Nat} (h:Born es.toList clock) (k v:Value):Born (es.push { key:=k,val:=v,born:=clock }).toList (clock+1):=by
 rw [Array.toList_push]
 refine ⟨fun x hx=>?_,?_⟩
 ·rw [List.mem_append] at hx
  rcases hx with hx|hx
  ·exact Nat.lt_succ_of_lt (h.1 x hx)
  ·rw [List.mem_singleton] at hx; subst hx; exact Nat.lt_succ_self _
 ·rw [List.map_append,List.nodup_append]
  refine ⟨h.2,by simp,fun a ha b hb=>?_⟩
  simp only [List.map_cons,List.map_nil,List.mem_singleton] at hb
  obtain ⟨x,hx,rfl⟩:=List.mem_map.1 ha
  have:=h.1 x hx
  omega
theorem Born.modify {es:Array MapEntry} {clock:Nat} (h:Born es.toList clock) (j:Nat) (k v:Value):Born (es.modify j fun e=>{ e with key:=k,val:=v }).toList clock:=by
 have hmap:((es.modify j fun e=>{ e with key:=k,val:=v }).toList.map (·.born))=es.toList.map (·.born):=by
  apply List.ext_getElem?
  intro n
  simp only [List.getElem?_map,Array.getElem?_toList,Array.getElem?_modify]
  split
  ·cases es[n]?<;>rfl
  ·rfl
 refine ⟨fun x hx=>?_,by rw [hmap]; exact h.2⟩
 have:x.born∈es.toList.map (·.born):=by rw [← hmap]; exact List.mem_map.2 ⟨x,hx,rfl⟩
 obtain ⟨y,hy,he⟩:=List.mem_map.1 this
 rw [← he]; exact h.1 y hy
theorem Born.erase {es:Array MapEntry} {clock:Nat} (h:Born es.toList clock) (j:Nat):Born (es.eraseIdxIfInBounds j).toList clock:=by
 unfold Array.eraseIdxIfInBounds
 split
 ·rw [Array.toList_eraseIdx]
  exact ⟨fun x hx=>h.1 x (List.mem_of_mem_eraseIdx hx),h.2.sublist ((List.eraseIdx_sublist _ _).map _)⟩
 ·exact h
theorem INV.map (hi:INV bars κ σ w) {id:Nat} {m m':List (Value×PV)} {es es':Array MapEntry} {clock clock':Nat} (hs:σ[id]? = some (.mp m)) (hc:w.heap[(κ.ρ id).1]? = some (.map es clock)) (hr:RelEnts κ m' es'.toList) (hbo:Born es'.toList clock') (hb:(m'.all fun p=>below 0 p.2)=true) :
  INV bars κ (σ.set id (.mp m')) { w with heap:=w.heap.setIfInBounds (κ.ρ id).1 (.map es' clock') }∧Kept σ.length κ σ w κ (σ.set id (.mp m')) { w with heap:=w.heap.setIfInBounds (κ.ρ id).1 (.map es' clock') }:=by
 have hlt:id<σ.length:=(List.getElem?_eq_some_iff.1 hs).1
 have hown:own κ σ id=some (κ.ρ id).1:=by rw [dx hs]; rfl
 obtain ⟨hg,-⟩:=hi.obs id _ hs
 obtain ⟨h1,h2⟩:=heap_set (w:=w) (o':=.map es' clock') hc
 have hnc:∀ o,w.cell? ⟨(κ.ρ id).1,o,none⟩=none:=fun o=>by simp [World.cell?,hc]
 refine INV.one hi id (.mp m') (by omega) (by simp; omega) (dC hlt) (fun j hj=>cA hj) (Ext.refl _ _) (fun _ _ _=>rfl) (by simp)
  (fun b hb hno=>h2 b (fun e=>hno (by rw [hown,e]))) (fun _ _ _ _=>rfl) ⟨hg,es',clock',h1,hr,hbo⟩ (fun b hb=>by cases hb; exact .inl hown) (fun b o v hm=>?_) (fun b hcap=>?_) hb (fun _ _ _=>hb) rfl rfl rfl
 ·by_cases hbb:b=(κ.ρ id).1
  ·subst hbb
   have:=hi.mem _ _ _ hm
   rw [hnc] at this; cases this
  ·have:=hi.mem _ _ _ hm
   simp only [World.cell?] at this ⊢
   rw [h2 b hbb]; exact this
 ·obtain ⟨c,T,fr,hd,hsz⟩:=hi.cap b hcap
  by_cases hbb:b=(κ.ρ id).1
  ·subst hbb; rw [hc] at hd; cases hd
  ·exact ⟨c,T,fr,by rw [h2 b hbb]; exact hd,hsz⟩
theorem HL (hi:INV bars κ σ w) (he:ENV κ σ.length env a.tmps) {str:Bool} {m key v:Opd} {m' key' v':Operand} {t kt et:TypeId} {d:TypeDesc} (hm:aJ m m'=true) (hk:aJ key key'=true) (hv:aJ v v'=true)
  (ht:P.underlying t=some (.map kt et)) (hkt:P.underlying kt=some d) (hd:js str d)
  (ho:o.op=.mapUpdate t m' key' v') (hr:opE bars env σ (.mupd str m key v)=some r):OpOK bars κ σ w ((execOp a.eval o).run P w) r:=by
 simp only [opE] at hr
 split at hr
 ·rename_i id kv pv hmv hkv hpv
  split at hr
  ·rename_i l hs
   split at hr
   ·rename_i hb0
    simp only [Option.bind_eq_some_iff,Option.some.injEq] at hr
    obtain ⟨l',hl',rfl⟩:=hr
    obtain ⟨⟨q,h1,-,h1'⟩,-⟩:=aA he hm hmv
    obtain ⟨h2,-⟩:=aA he hk hkv
    obtain ⟨h3,-⟩:=aA he hv hpv
    simp only [RelV] at h2
    obtain ⟨hg,es,clock,hc,hre,hbo⟩:=hi.obs id _ hs
    have hq:=h1' hg
    subst hq
    have hgo:=run_getObj_map (P:=P) hc
    have hck:=sN (P:=P) (w:=w) (y:=kv) hkt hd false 9999
    have hbm:=AV (n:=0) hb0 (by simpa [ba] using hi.wf _ _ hs) hl'
    obtain ⟨hsb,hcase⟩:=F0 hd (RelV.norm pv _ h3) 0 hre hl'
    have hstay:(Instr.keyThatStays kv kv).run P w=.ok kv w:=by simp [Instr.keyThatStays,hsb]
    rcases hcase with ⟨hf,hre'⟩|⟨u,j,e,hf,hje,hek,hre'⟩
    ·have hfk:=run_findKey (w:=w) hkt hf
     obtain ⟨h5,h6⟩:=INV.map (es':=es.push { key:=kv,val:=a.eval v',born:=clock }) (clock':=clock+1) hi hs hc (by rw [Array.toList_push]; exact hre' clock) (hbo.push _ _) hbm
     refine ⟨κ,_,undef,.inr ⟨?_,rfl⟩,iK _,rfl,h5,h6,by simp⟩
     simp [execOp,ho,h1,h2,Instr.mapUpdate,run_underlying ht,hgo,hck,hfk,run_setObj_map _ hc]
    ·have hfk:=run_findKey (w:=w) hkt hf
     have hj:es[j]? = some e:=by simpa using hje
     obtain ⟨h5,h6⟩:=INV.map (es':=es.modify j fun e=>{ e with key:=kv,val:=a.eval v' }) (clock':=clock) hi hs hc (by
      have:(es.modify j fun e=>{ e with key:=kv,val:=a.eval v' }).toList=es.toList.set j { e with key:=kv,val:=a.eval v' }:=by
       apply List.ext_getElem?
       intro n
       rw [Array.getElem?_toList,Array.getElem?_modify,List.getElem?_set,Array.getElem?_toList]
       have hlt:=(List.getElem?_eq_some_iff.1 hje).1
       by_cases hjn:j=n
       ·subst hjn; simp [hj]; simpa using hlt
       ·simp [hjn]
      rw [this]; exact hre') (hbo.modify _ _ _) hbm
     refine ⟨κ,_,undef,.inr ⟨?_,rfl⟩,iK _,rfl,h5,h6,by simp⟩
     simp only [Nat.zero_add] at hfk
     simp [execOp,ho,h1,h2,Instr.mapUpdate,run_underlying ht,hgo,hck,hfk,hj,hek,hstay,run_setObj_map _ hc]
   ·cases hr
  ·cases hr
 ·cases hr
theorem J0 (hi:INV bars κ σ w) (he:ENV κ σ.length env a.tmps) {str:Bool} {m key:Opd} {m' key':Operand} {t tk kt et:TypeId} {d:TypeDesc} (hm:aJ m m'=true) (hk:aJ key key'=true)
  (ht:P.underlying t=some (.map kt et)) (hkt:P.underlying kt=some d) (hd:js str d)
  (ho:o.op=.call { callee:=.builtin .delete,args:=#[m',key'],argTypes:=#[t,tk] }) (hr:opE bars env σ (.del str m key)=some r):OpOK bars κ σ w ((execOp a.eval o).run P w) r:=by
 simp only [opE] at hr
 split at hr
 ·rename_i id kv hmv hkv
  split at hr
  ·rename_i l hs
   simp only [Option.bind_eq_some_iff,Option.some.injEq] at hr
   obtain ⟨l',hl',rfl⟩:=hr
   obtain ⟨⟨q,h1,-,h1'⟩,-⟩:=aA he hm hmv
   obtain ⟨h2,-⟩:=aA he hk hkv
   simp only [RelV] at h2
   obtain ⟨hg,es,clock,hc,hre,hbo⟩:=hi.obs id _ hs
   have hq:=h1' hg
   subst hq
   have hgo:=run_getObj_map (P:=P) hc
   have hck:=sN (P:=P) (w:=w) (y:=kv) hkt hd es.isEmpty 9999
   have hbm:=AW (n:=0) (by simpa [ba] using hi.wf _ _ hs) hl'
   rcases F1 hd 0 hre hl' with ⟨hf,hre'⟩|⟨u,j,hf,hj,hre'⟩
   ·have hfk:=run_findKey (w:=w) hkt hf
    obtain ⟨h5,h6⟩:=INV.map (es':=es) (clock':=clock) hi hs hc hre' hbo hbm
    refine ⟨κ,_,.tuple #[],.inl ?_,⟨_,rfl,rfl⟩,rfl,h5,h6,by simp⟩
    simp [execOp,ho,resolve,invoke,builtin,h1,h2,Builtin.delete_,run_underlying ht,hgo,hck,hfk,run_setObj_map _ hc]
   ·have hfk:=run_findKey (w:=w) hkt hf
    obtain ⟨h5,h6⟩:=INV.map (es':=es.eraseIdxIfInBounds j) (clock':=clock) hi hs hc (by
     have:(es.eraseIdxIfInBounds j).toList=es.toList.eraseIdx j:=by
      unfold Array.eraseIdxIfInBounds
      rw [dif_pos (by simpa using hj),Array.toList_eraseIdx]
     rw [this]; exact hre') (hbo.erase _) hbm
    refine ⟨κ,_,.tuple #[],.inl ?_,⟨_,rfl,rfl⟩,rfl,h5,h6,by simp⟩
    simp only [Nat.zero_add] at hfk
    simp [execOp,ho,resolve,invoke,builtin,h1,h2,Builtin.delete_,run_underlying ht,hgo,hck,hfk,run_setObj_map _ hc]
  ·cases hr
 ·cases hr
theorem J1 (hi:INV bars κ σ w) (he:ENV κ σ.length env a.tmps) {t xt:TypeId} {zero:PV} {ok:Bool} {x:Opd} {x':Operand} {d:TypeDesc} {i:TypeInfo} {z:Value} (hx:aJ x x'=true)
  (ht:P.underlying t=some d) (hd:∀ ms,d≠.interface ms) (hei:P.info? t=some i) (hz:i.zero=some z) (hzz:eqC zero z=true)
  (ho:o.op=.typeAssert x' xt t ok) (hr:opE bars env σ (.tas t zero ok x)=some r):OpOK bars κ σ w ((execOp a.eval o).run P w) r:=by
 obtain ⟨hz1,hz2⟩:=tZ κ σ.length zero z hzz
 have zrel:RelV κ (.tup [zero,.b false]) (.tuple #[z,.bool false]):=⟨_,rfl,⟨_,_,rfl,hz1,⟨_,_,rfl,rfl,rfl⟩⟩⟩
 have zbel:below σ.length (.tup [zero,.b false])=true:=by simp [below,below.belowAll,hz2]
 simp only [opE] at hr
 split at hr
 ·rename_i u v hv
  obtain ⟨⟨y,h1,h1'⟩,h2⟩:=aA he hx hv
  split at hr
  ·rename_i hut
   subst hut
   cases hr
   refine aL hi (x:=if ok then .tuple #[y,.bool true] else y) ?_ ?_ ?_
   ·cases d<;>first|(exact absurd rfl (hd _))|simp [execOp,ho,h1,Instr.typeAssert,run_underlying ht]
   ·cases ok
    ·simpa using h1'
    ·exact ⟨_,rfl,⟨_,_,rfl,h1',⟨_,_,rfl,rfl,rfl⟩⟩⟩
   ·simp only [below] at h2
    cases ok
    ·simpa using h2
    ·simp [below,below.belowAll,h2]
  ·rename_i hut
   split at hr
   ·rename_i hok
    subst hok
    cases hr
    refine aL hi ?_ zrel zbel
    cases d<;>first|(exact absurd rfl (hd _))|simp [execOp,ho,h1,hut,Instr.typeAssert,run_underlying ht,zeroValue,typeInfo,hei,hz]
   ·cases hr
 ·rename_i hv
  split at hr
  ·rename_i hok
   subst hok
   cases hr
   obtain ⟨h1,-⟩:=aA he hx hv
   simp only [RelV] at h1
   refine aL hi ?_ zrel zbel
   cases d<;>first|(exact absurd rfl (hd _))|simp [execOp,ho,h1,Instr.typeAssert,run_underlying ht,zeroValue,typeInfo,hei,hz]
  ·cases hr
 ·cases hr
theorem F2 (hi:INV bars κ σ w) (he:ENV κ σ.length env a.tmps) {x:Opd} {x':Operand} (hx:aJ x x'=true)
  (ho:o.op=.panic x') (hr:opE bars env σ (.panic x)=some r):OpOK bars κ σ w ((execOp a.eval o).run P w) r:=by
 simp only [opE] at hr
 split at hr
 ·rename_i t v hv
  cases hr
  obtain ⟨⟨y,h1,h1'⟩,h2⟩:=aA he hx hv
  exact ⟨rfl,a.eval x',by simp [execOp,ho,h1,Instr.panic],⟨y,h1,h1'⟩,h2⟩
 ·cases hr
end
end Go.Ev

namespace Go.Ev
variable [CodeRel]
open Go.MapKept
section
variable {P:Program} {bars:List Nat} {κ:Kn} {σ:Sto} {w:World} {env:Env} {a:Act} {o:Oper} {r:OpR}
def y7 (P:Program) (k:Bool) (t:TypeId):Bool:=match P.underlying t with
 | some .string=>k
 | some (.int _)=>!k
 | _=>false
def AX (P:Program):Nat→List Bool→List Field→Bool
 | _,[],[]=>true
 | i,k :: kd,f :: r => f.offset == i && f.name != "_" && y7 P k f.type && AX P (i + 1) kd r
 | _,_,_=>false
theorem pb {k:Bool} {t:TypeId} (h:y7 P k t=true) {cs:Array Value} {off:Nat} {v:Value} (hv:cs[off]? = some v):(part t cs off).run P w=.ok v w:=by
 unfold y7 at h
 split at h
 ·rename_i h'; simp [part,isAgg,run_underlying h',hv]
 ·rename_i h'; simp [part,isAgg,run_underlying h',hv]
 ·cases h
inductive KOK:List Bool→List Value→Prop
 | nil:KOK [] []
 | int {kd l} (j:IntKind) (x:Int) (h:KOK kd l):KOK (false::kd) (.int j x::l)
 | str {kd l} (x:ByteArray) (h:KOK kd l):KOK (true::kd) (.string x::l)
theorem AY {κ:Kn}:∀ {kd:List Bool} {cs:List PV} {ks us:List Value},zu kd cs=some ks→RelL κ cs us→us=ks∧KOK kd ks
 | [],[],ks,us,h,hr=>by
  simp only [zu,Option.some.injEq] at h
  simp only [RelL] at hr
  subst h; subst hr
  exact ⟨rfl,.nil⟩
 | [],_::_,ks,us,h,hr=>by simp [zu] at h
 | k::kd,[],ks,us,h,hr=>by cases k<;>simp [zu] at h
 | k::kd,p::r,ks,us,h,hr=>by
  simp only [RelL] at hr
  obtain ⟨v,l,rfl,hv,hl⟩:=hr
  unfold zu at h
  split at h
  ·rename_i heq; cases heq
  ·rename_i heq1 heq2; cases heq1; cases heq2
   simp only [Option.bind_eq_some_iff,Option.some.injEq] at h
   obtain ⟨l',h1,rfl⟩:=h
   simp only [RelV] at hv
   obtain ⟨rfl,h2⟩:=AY h1 hl
   exact ⟨by rw [hv],.int _ _ h2⟩
  ·rename_i heq1 heq2; cases heq1; cases heq2
   simp only [Option.bind_eq_some_iff,Option.some.injEq] at h
   obtain ⟨l',h1,rfl⟩:=h
   simp only [RelV] at hv
   obtain ⟨rfl,h2⟩:=AY h1 hl
   exact ⟨by rw [hv],.str _ h2⟩
  ·cases h
theorem HM:∀ {a b:List Value},eqS a b=some true→a=b
 | [],b,h=>by
  cases b with
  | nil=>rfl
  | cons y s=>simp [eqS] at h
 | x::r,b,h=>by
  unfold eqS at h
  split at h
  ·rename_i h1; cases h1
  ·rename_i j x' r' k y s h1
   cases h1
   split at h
   ·rename_i hjk
    simp only [Option.bind_eq_some_iff,Option.some.injEq,Bool.and_eq_true,decide_eq_true_eq] at h
    obtain ⟨b,hb,rfl,rfl⟩:=h
    rw [hjk,HM hb]
   ·cases h
  ·rename_i x' r' y s h1
   cases h1
   simp only [Option.bind_eq_some_iff,Option.some.injEq,Bool.and_eq_true,decide_eq_true_eq] at h
   obtain ⟨b,hb,rfl,rfl⟩:=h
   rw [HM hb]
  ·cases h
theorem As:∀ {a b:List Value} {c:Bool},eqS a b=some c→a.length=b.length
 | [],b,c,h=>by
  cases b with
  | nil=>rfl
  | cons y s=>simp [eqS] at h
 | x::r,b,c,h=>by
  unfold eqS at h
  split at h
  ·rename_i h1; cases h1
  ·rename_i j x' r' k y s h1
   cases h1
   split at h
   ·simp only [Option.bind_eq_some_iff] at h
    obtain ⟨b,hb,-⟩:=h
    simp [As hb]
   ·cases h
  ·rename_i x' r' y s h1
   cases h1
   simp only [Option.bind_eq_some_iff] at h
   obtain ⟨b,hb,-⟩:=h
   simp [As hb]
  ·cases h
theorem wA (d:Nat) {xs ys:Array Value}:∀ {kd:List Bool} {fs:List Field} {i:Nat} {b:Bool},AX P i kd fs=true→KOK kd (xs.toList.drop i)→eqS (xs.toList.drop i) (ys.toList.drop i)=some b→(Op.eqFields (d+1) xs ys fs).run P w=.ok b w
 | [],[],i,b,_,hk,h=>by
  generalize xs.toList.drop i=X at hk h
  cases hk
  have:ys.toList.drop i=[]:=by have:=As h; exact List.eq_nil_of_length_eq_zero this.symm
  rw [this] at h
  simp only [eqS,Option.some.injEq] at h
  subst h
  simp [Op.eqFields]
 | [],_::_,i,b,hf,_,_=>by simp [AX] at hf
 | _::_,[],i,b,hf,_,_=>by simp [AX] at hf
 | k::kd,f::fs,i,b,hf,hk,h=>by
  simp only [AX,Bool.and_eq_true,beq_iff_eq,bne_iff_ne] at hf
  obtain ⟨⟨⟨rfl,hn⟩,hs⟩,hr⟩:=hf
  have hlen:=As h
  have hxl:f.offset<xs.size:=by
   cases hX:xs.toList.drop f.offset with
   | nil=>rw [hX] at hk; cases hk
   | cons X r=>have:=congrArg List.length hX; simp at this; omega
  have hyl:f.offset<ys.size:=by simp at hlen; omega
  have hx0:xs[f.offset]? = some xs[f.offset]:=Array.getElem?_eq_getElem hxl
  have hy0:ys[f.offset]? = some ys[f.offset]:=Array.getElem?_eq_getElem hyl
  have hdx:xs.toList.drop f.offset=xs[f.offset]::xs.toList.drop (f.offset+1):=by rw [List.drop_eq_getElem_cons (by simpa using hxl)]; simp
  have hdy:ys.toList.drop f.offset=ys[f.offset]::ys.toList.drop (f.offset+1):=by rw [List.drop_eq_getElem_cons (by simpa using hyl)]; simp
  rw [hdx,hdy] at h
  rw [hdx] at hk
  have hp1:=pb (P:=P) (w:=w) hs hx0
  have hp2:=pb (P:=P) (w:=w) hs hy0
  have step:∀ (c:Bool) (b':Bool),KOK kd (xs.toList.drop (f.offset+1))→(Op.equalIn (d+1) f.type xs[f.offset] ys[f.offset]).run P w=.ok c w→eqS (xs.toList.drop (f.offset+1)) (ys.toList.drop (f.offset+1))=some b'→(Op.eqFields (d+1) xs ys (f::fs)).run P w=.ok (c && b') w:=by
   intro c b' hkk hc hb'
   have ih:=wA d hr hkk hb'
   simp only [Op.eqFields]
   rw [if_pos hn]
   simp only [Sem.run_bind,hp1,Result.andThen_ok,hp2,hc]
   cases c
   ·simp
   ·simpa using ih
  generalize hX:xs[f.offset]=X at h hk step
  generalize hY:ys[f.offset]=Y at h step
  cases hk with
  | int j x hk =>
   unfold eqS at h
   split at h
   ·rename_i h1 _; cases h1
   ·rename_i j x r k y s h1 h2
    cases h1; cases h2
    split at h
    ·rename_i hjk
     subst hjk
     simp only [Option.bind_eq_some_iff,Option.some.injEq] at h
     obtain ⟨b',hb',rfl⟩:=h
     refine step _ b' hk ?_ hb'
     unfold y7 at hs
     split at hs
     ·cases hs
     ·rename_i kk hu
      rw [run_equalIn_int w d f.type j kk x y hu,qh]
     ·cases hs
    ·cases h
   ·rename_i h1 h2; cases h1
   ·cases h
  | str x hk =>
   unfold eqS at h
   split at h
   ·rename_i h1 _; cases h1
   ·rename_i h1 h2; cases h1
   ·rename_i x r y s h1 h2
    cases h1; cases h2
    simp only [Option.bind_eq_some_iff,Option.some.injEq] at h
    obtain ⟨b',hb',rfl⟩:=h
    refine step _ b' hk ?_ hb'
    unfold y7 at hs
    split at hs
    ·rename_i hu
     have hbb:(x == y)=decide (x=y):=by rw [Bool.eq_iff_iff,bytes_beq]; simp
     rw [run_equalIn_string w d f.type x y hu,← beq_toListBytes,hbb]
    ·cases hs
    ·cases hs
   ·cases h
def CL (P:Program) (kd:List Bool) (kt:TypeId):Prop:=∃ fs:Array Field,P.underlying kt=some (.struct fs)∧P.stoodInHeld kt=false∧AX P 0 kd fs.toList=true
theorem KOK.len:∀ {kd:List Bool} {l:List Value},KOK kd l→l.length=kd.length
 | _,_,.nil=>rfl
 | _,_,.int _ _ h=>by simp [h.len]
 | _,_,.str _ h=>by simp [h.len]
theorem xI {kd:List Bool} {kt:TypeId} (hk:CL P kd kt) {a b:List Value} {c:Bool} (ha:KOK kd a) (h:eqS a b=some c):(Op.equal kt (.agg a.toArray) (.agg b.toArray)).run P w=.ok c w:=by
 obtain ⟨fs,h1,h2,h3⟩:=hk
 have hf:P.fieldsOf kt=fs:=by simp [Program.fieldsOf,h1]
 show (Op.equalIn (9999+1) kt _ _).run P w=_
 rw [run_equalIn_struct w 9999 kt _ _ (by rw [hf]; exact h1) h2,hf]
 exact wA 9998 h3 (by simpa using ha) (by simpa using h)
theorem F3 {k:Bool} {t:TypeId} (h:y7 P k t=true) (em:Bool) (n:Nat) (y:Value):(Instr.checkKey em (n+1) t y).run P w=.ok () w:=by
 unfold y7 at h
 unfold Instr.checkKey
 split at h
 ·rename_i hu; simp [run_underlying hu]
 ·rename_i hu; simp [run_underlying hu]
 ·cases h
theorem DN {kd:List Bool} {kt:TypeId} (hk:CL P kd kt) (em:Bool) (n:Nat) {a:List Value} (ha:KOK kd a):(Instr.checkKey em (n+2) kt (.agg a.toArray)).run P w=.ok () w:=by
 obtain ⟨fs,h1,h2,h3⟩:=hk
 unfold Instr.checkKey
 simp only [Sem.run_bind,run_underlying h1,Result.andThen_ok]
 rw [← Array.forIn_toList]
 have hl:=ha.len
 have key : ∀ (kd : List Bool) (l : List Field) (i : Nat),AX P i kd l = true → i + kd.length ≤ a.length → ∀ (f : Field → PUnit → Sem (ForInStep PUnit)),(∀ g ∈ l,∀ k,y7 P k g.type = true → g.name ≠ "_" → ∀ v,a.toArray[g.offset]? = some v → (f g PUnit.unit).run P w = .ok (.yield PUnit.unit) w) → (forIn l PUnit.unit f).run P w = .ok PUnit.unit w := by
  intro kd l
  induction l generalizing kd with
  | nil=>intro i _ _ f _; simp
  | cons g l ih =>
   intro i hf hle f nJ
   cases kd with
   | nil=>simp [AX] at hf
   | cons k kd =>
    simp only [AX,Bool.and_eq_true,beq_iff_eq,bne_iff_ne] at hf
    obtain ⟨⟨⟨rfl,hn⟩,hs⟩,hr⟩:=hf
    simp only [List.length_cons] at hle
    have hlt:g.offset<a.toArray.size:=by simp; omega
    have hv:a.toArray[g.offset]? = some a.toArray[g.offset]:=Array.getElem?_eq_getElem hlt
    rw [List.forIn_cons,Sem.run_bind,nJ g (by simp) k hs hn _ hv,Result.andThen_ok]
    exact ih kd (g.offset+1) hr (by omega) f fun g' hg'=>nJ g' (by simp [hg'])
 have := key kd fs.toList 0 h3 (by omega) (fun f _ => if f.name ≠ "_" then do
       let v ← part f.type a.toArray f.offset
       Instr.checkKey em (n+1) f.type v
       pure (ForInStep.yield PUnit.unit)
      else pure (ForInStep.yield PUnit.unit)) fun g hg k hs hn v hv=>by
  have hp:=pb (P:=P) (w:=w) hs hv
  have hc:=F3 (P:=P) (w:=w) hs em n v
  simp [hp,hc,hn]
 rw [this]
 rfl
theorem pH {kd:List Bool} {kt:TypeId} (hk:CL P kd kt) {a:List Value} (ha:KOK kd a) {l:List MapEntry} {x:Option (Nat×Value)} (h:(Instr.findAsking kt (.agg a.toArray) l 0).run P w=.ok x w):(Instr.findKey kt (.agg a.toArray) l).run P w=.ok x w:=by
 obtain ⟨fs,h1,-,-⟩:=hk
 unfold Instr.findKey
 simp only [Sem.run_bind,run_underlying h1,Result.andThen_ok]
 cases l with
 | nil =>
  simp [Instr.findAsking] at h
  simp [Instr.findNow,h]
 | cons e l=>simpa [Instr.findNow,Instr.sameNow] using h
theorem DO {kd:List Bool} {kt:TypeId} (hk:CL P kd kt) {a:List Value} (ha:KOK kd a):∀ {m:List (Value×PV)} {l:List MapEntry} {x:Option PV} (i:Nat),RelEnts κ m l→yX m a=some x →
  (x=none∧(Instr.findAsking kt (.agg a.toArray) l i).run P w=.ok none w)∨∃ v u j,x=some v∧(Instr.findAsking kt (.agg a.toArray) l i).run P w=.ok (some (i+j,u)) w∧RelV κ v u
 | [],l,x,i,hr,h=>by
  simp only [RelEnts] at hr; subst hr
  simp only [yX,Option.some.injEq] at h
  exact .inl ⟨h.symm,by simp [Instr.findAsking]⟩
 | (k,v)::m,l,x,i,hr,h=>by
  simp only [RelEnts] at hr
  obtain ⟨e,l',rfl,hek,hv,hr⟩:=hr
  unfold yX at h
  split at h
  ·rename_i h1; cases h1
  ·rename_i kk vv r h1
   cases h1
   have hq:∀ c,eqS a kk.toList=some c→(Op.equal kt (.agg a.toArray) e.key).run P w=.ok c w:=fun c hc=>by
    rw [hek]
    have:=xI (w:=w) hk ha hc
    simpa using this
   split at h
   ·rename_i hc
    cases h
    exact .inr ⟨v,e.val,0,rfl,by simp [Instr.findAsking,hq _ hc],hv⟩
   ·rename_i hc
    rcases DO hk ha (i+1) hr h with ⟨h3,h4⟩|⟨v',u,j,h3,h4,h5⟩
    ·exact .inl ⟨h3,by simp [Instr.findAsking,hq _ hc,h4]⟩
    ·exact .inr ⟨v',u,j+1,h3,by simp [Instr.findAsking,hq _ hc,h4]; omega,h5⟩
   ·cases h
  ·cases h
theorem EC {kd:List Bool} {a:List Value} (ha:KOK kd a) (n:Nat):Instr.sameBits (n+1) (.agg a.toArray) (.agg a.toArray)=true:=by
 have:∀ {kd:List Bool} {a:List Value},KOK kd a→((a.zip a).all fun p=>Instr.sameBits n p.1 p.2)=true:=by
  intro kd a h
  induction h with
  | nil=>rfl
  | int j x h ih=>simp only [List.zip_cons_cons,List.all_cons,ih,Bool.and_true]; cases n<;>simp [Instr.sameBits]
  | str x h ih=>simp only [List.zip_cons_cons,List.all_cons,ih,Bool.and_true]; cases n<;>simp [Instr.sameBits,bytes_beq]
 simp only [Instr.sameBits,beq_self_eq_true,Bool.true_and]
 exact this ha
theorem DP {kd:List Bool} {kt:TypeId} (hk:CL P kd kt) {a:List Value} (ha:KOK kd a) {pv:PV} {val:Value} (cD:RelV κ pv val):∀ {m:List (Value×PV)} {l:List MapEntry} {m':List (Value×PV)} (i:Nat),RelEnts κ m l→yY m a pv=some m' →
  ((Instr.findAsking kt (.agg a.toArray) l i).run P w=.ok none w∧∀ b,RelEnts κ m' (l++[{ key:=.agg a.toArray,val,born:=b }]))∨∃ u j e,(Instr.findAsking kt (.agg a.toArray) l i).run P w=.ok (some (i+j,u)) w∧l[j]? = some e∧e.key=.agg a.toArray∧RelEnts κ m' (l.set j { e with key:=.agg a.toArray,val:=val })
 | [],l,m',i,hr,h=>by
  simp only [RelEnts] at hr; subst hr
  simp only [yY,Option.some.injEq] at h
  subst h
  exact .inl ⟨by simp [Instr.findAsking],fun b=>⟨_,[],rfl,rfl,cD,rfl⟩⟩
 | (k,v)::m,l,m',i,hr,h=>by
  simp only [RelEnts] at hr
  obtain ⟨e,l',rfl,hek,hv,hr⟩:=hr
  unfold yY at h
  split at h
  ·rename_i h1; cases h1
  ·rename_i kk vv r h1
   cases h1
   have hq:∀ c,eqS a kk.toList=some c→(Op.equal kt (.agg a.toArray) e.key).run P w=.ok c w:=fun c hc=>by
    rw [hek]
    have:=xI (w:=w) hk ha hc
    simpa using this
   split at h
   ·rename_i hc
    cases h
    have hkk:e.key=.agg a.toArray:=by rw [hek,HM hc]
    exact .inr ⟨e.val,0,e,by simp [Instr.findAsking,hq _ hc],rfl,hkk,⟨_,l',rfl,rfl,cD,hr⟩⟩
   ·rename_i hc
    simp only [Option.bind_eq_some_iff,Option.some.injEq] at h
    obtain ⟨r',h4,rfl⟩:=h
    rcases DP hk ha cD (i+1) hr h4 with ⟨h6,h7⟩|⟨u,j,e',h6,h7,h8,h9⟩
    ·exact .inl ⟨by simp [Instr.findAsking,hq _ hc,h6],fun b=>⟨e,_,rfl,hek,hv,h7 b⟩⟩
    ·exact .inr ⟨u,j+1,e',by simp [Instr.findAsking,hq _ hc,h6]; omega,by simpa using h7,h8,⟨e,_,rfl,hek,hv,h9⟩⟩
   ·cases h
  ·cases h
theorem y8 {n:Nat} {key:List Value} {v:PV}:∀ {m:List (Value×PV)},(m.all fun p=>below n p.2)=true→yX m key=some (some v)→below n v=true
 | [],_,h=>by simp [yX] at h
 | (k,x)::m,hb,h=>by
  simp only [List.all_cons,Bool.and_eq_true] at hb
  unfold yX at h
  split at h
  ·rename_i h1; cases h1
  ·rename_i h1
   cases h1
   split at h
   ·cases h; exact hb.1
   ·exact y8 hb.2 h
   ·cases h
  ·cases h
theorem y9 {n:Nat} {key:List Value} {v:PV} (hv:below n v=true):∀ {m m':List (Value×PV)},(m.all fun p=>below n p.2)=true→yY m key v=some m'→(m'.all fun p=>below n p.2)=true
 | [],m',_,h=>by
  simp only [yY,Option.some.injEq] at h
  subst h; simp [hv]
 | (k,x)::m,m',hb,h=>by
  simp only [List.all_cons,Bool.and_eq_true] at hb
  unfold yY at h
  split at h
  ·rename_i h1; cases h1
  ·rename_i h1
   cases h1
   split at h
   ·cases h; simp only [List.all_cons,Bool.and_eq_true]; exact ⟨hv,hb.2⟩
   ·simp only [Option.bind_eq_some_iff,Option.some.injEq] at h
    obtain ⟨r',h4,rfl⟩:=h
    simp only [List.all_cons,Bool.and_eq_true]; exact ⟨hb.1,y9 hv hb.2 h4⟩
   ·cases h
  ·cases h
theorem At {κ:Kn} {kd:List Bool} {cs:List PV} {ks:List Value} {n:Nat} {x:Value} (h:zu kd cs=some ks) (hr:RelV κ (.agg cs) x):x=.agg ks.toArray∧KOK kd ks:=by
 obtain ⟨us,rfl,hr,-⟩:=hr
 obtain ⟨h1,h2⟩:=AY h hr
 exact ⟨by rw [← h1],h2⟩
theorem J2 (hi:INV bars κ σ w) (he:ENV κ σ.length env a.tmps) {kd:List Bool} {neg:Bool} {x y:Opd} {x' y':Operand} {t t':TypeId} (hx:aJ x x'=true) (hy:aJ y y'=true) (hk:CL P kd t) (hgt:P.eqGuardType P.depth t=false)
  (ho:o.op=.binOp (if neg then .neq else .eql) t x' y' t') (hr:opE bars env σ (.stq kd neg x y)=some r):OpOK bars κ σ w ((execOp a.eval o).run P w) r:=by
 simp only [opE] at hr
 split at hr
 ·rename_i ca cb hu hv
  simp only [Option.bind_eq_some_iff,Option.some.injEq] at hr
  obtain ⟨ka,hka,kb,hkb,c,hc,rfl⟩:=hr
  obtain ⟨h1,-⟩:=aA he hx hu
  obtain ⟨h2,-⟩:=aA he hy hv
  obtain ⟨h3,h4⟩:=At (n:=0) hka h1
  obtain ⟨h5,h6⟩:=At (n:=0) hkb h2
  have hg:∀ op w,(eqGuard op t x' y' (.agg ka.toArray) (.agg kb.toArray)).run P w=.ok () w:=fun op w=>by
   unfold eqGuard; split<;>simp [hgt]
  have heq:∀ w,(Op.equal t (.agg ka.toArray) (.agg kb.toArray)).run P w=.ok c w:=fun w=>xI hk h4 hc
  refine aL hi (x:=.bool (c != neg)) ?_ rfl rfl
  cases neg
  ·simp only [Bool.false_eq_true,if_false] at ho
   simp [execOp,ho,h3,h5,hg,binOp,heq]
  ·simp only [if_true] at ho
   simp [execOp,ho,h3,h5,hg,binOp,heq]
 ·cases hr
theorem CN (hi:INV bars κ σ w) (he:ENV κ σ.length env a.tmps) {kd:List Bool} {zero:PV} {m key:Opd} {ok:Bool} {m' key':Operand} {t kt et:TypeId} {i:TypeInfo} {z:Value} (hm:aJ m m'=true) (hk:aJ key key'=true)
  (ht:P.underlying t=some (.map kt et)) (hkt:CL P kd kt) (hei:P.info? et=some i) (hz:i.zero=some z) (hzz:eqC zero z=true)
  (ho:o.op=.lookup t m' key' ok) (hr:opE bars env σ (.lookup2 kd zero m key ok)=some r):OpOK bars κ σ w ((execOp a.eval o).run P w) r:=by
 simp only [opE] at hr
 split at hr
 ·rename_i id cs hmv hkv
  simp only [Option.bind_eq_some_iff] at hr
  obtain ⟨ks,hks,hr⟩:=hr
  split at hr
  ·rename_i l hs
   simp only [Option.bind_eq_some_iff,Option.some.injEq] at hr
   obtain ⟨x,hx,rfl⟩:=hr
   obtain ⟨⟨q,h1,-,h1'⟩,-⟩:=aA he hm hmv
   obtain ⟨h2,-⟩:=aA he hk hkv
   obtain ⟨h2,hKOK⟩:=At (n:=0) hks h2
   obtain ⟨hg,es,clock,hc,hre,hbo⟩:=hi.obs id _ hs
   have hq:=h1' hg
   subst hq
   obtain ⟨hz1,hz2⟩:=tZ κ σ.length zero z hzz
   have hbl:∀ v,x=some v→below σ.length v=true:=fun v hv=>y8 (n:=σ.length) (by
    have:=hi.wf _ _ hs
    simp only [ba,List.all_eq_true] at this ⊢
    exact fun p hp=>bk (Nat.zero_le _) _ (this p hp)) (by rw [← hv]; exact hx)
   have hgo:=run_getObj_map (P:=P) hc
   have hck:=DN (P:=P) (w:=w) hkt es.isEmpty 9998 hKOK
   simp only [Nat.reduceAdd] at hck
   rcases DO (w:=w) hkt hKOK 0 hre hx with ⟨rfl,hf⟩|⟨v,u,j,rfl,hf,hv⟩
   ·have hfk:=pH hkt hKOK hf
    refine aL hi (x:=if ok then .tuple #[z,.bool false] else z) ?_ ?_ ?_
    ·simp [execOp,ho,h1,h2,Instr.lookup,run_underlying ht,hgo,hck,hfk,zeroValue,typeInfo,hei,hz]
    ·cases ok
     ·simpa using hz1
     ·exact ⟨_,rfl,⟨_,_,rfl,hz1,⟨_,_,rfl,rfl,rfl⟩⟩⟩
    ·cases ok
     ·simpa using hz2
     ·simp [below,below.belowAll,hz2]
   ·have hfk:=pH hkt hKOK hf
    have hb:=hbl v rfl
    refine aL hi (x:=if ok then .tuple #[u,.bool true] else u) ?_ ?_ ?_
    ·simp [execOp,ho,h1,h2,Instr.lookup,run_underlying ht,hgo,hck,hfk]
    ·cases ok
     ·simpa using hv
     ·exact ⟨_,rfl,⟨_,_,rfl,hv,⟨_,_,rfl,rfl,rfl⟩⟩⟩
    ·cases ok
     ·simpa using hb
     ·simp [below,below.belowAll,hb]
  ·cases hr
 ·cases hr
theorem F4 (hi:INV bars κ σ w) (he:ENV κ σ.length env a.tmps) {kd:List Bool} {m key v:Opd} {m' key' v':Operand} {t kt et:TypeId} (hm:aJ m m'=true) (hk:aJ key key'=true) (hv:aJ v v'=true)
  (ht:P.underlying t=some (.map kt et)) (hkt:CL P kd kt)
  (ho:o.op=.mapUpdate t m' key' v') (hr:opE bars env σ (.mupd2 kd m key v)=some r):OpOK bars κ σ w ((execOp a.eval o).run P w) r:=by
 simp only [opE] at hr
 split at hr
 ·rename_i id cs pv hmv hkv hpv
  simp only [Option.bind_eq_some_iff] at hr
  obtain ⟨ks,hks,hr⟩:=hr
  split at hr
  ·rename_i l hs
   split at hr
   ·rename_i hb0
    simp only [Option.bind_eq_some_iff,Option.some.injEq] at hr
    obtain ⟨l',hl',rfl⟩:=hr
    obtain ⟨⟨q,h1,-,h1'⟩,-⟩:=aA he hm hmv
    obtain ⟨h2,-⟩:=aA he hk hkv
    obtain ⟨h3,-⟩:=aA he hv hpv
    obtain ⟨h2,hKOK⟩:=At (n:=0) hks h2
    obtain ⟨hg,es,clock,hc,hre,hbo⟩:=hi.obs id _ hs
    have hq:=h1' hg
    subst hq
    have hgo:=run_getObj_map (P:=P) hc
    have hck:=DN (P:=P) (w:=w) hkt false 9998 hKOK
    simp only [Nat.reduceAdd] at hck
    have hbm:=y9 (n:=0) hb0 (by simpa [ba] using hi.wf _ _ hs) hl'
    have hsb:∀ n,Instr.sameBits (n+1) (.agg ks.toArray) (.agg ks.toArray)=true:=fun n=>EC hKOK n
    have hcase:=DP (w:=w) hkt hKOK (RelV.norm pv _ h3) 0 hre hl'
    have hstay:(Instr.keyThatStays (.agg ks.toArray) (.agg ks.toArray)).run P w=.ok (.agg ks.toArray) w:=by simp [Instr.keyThatStays,hsb]
    rcases hcase with ⟨hf,hre'⟩|⟨u,j,e,hf,hje,hek,hre'⟩
    ·have hfk:=pH hkt hKOK hf
     obtain ⟨h5,h6⟩:=INV.map (es':=es.push { key:=.agg ks.toArray,val:=a.eval v',born:=clock }) (clock':=clock+1) hi hs hc (by rw [Array.toList_push]; exact hre' clock) (hbo.push _ _) hbm
     refine ⟨κ,_,undef,.inr ⟨?_,rfl⟩,iK _,rfl,h5,h6,by simp⟩
     simp [execOp,ho,h1,h2,Instr.mapUpdate,run_underlying ht,hgo,hck,hfk,run_setObj_map _ hc]
    ·have hfk:=pH hkt hKOK hf
     have hj:es[j]? = some e:=by simpa using hje
     obtain ⟨h5,h6⟩:=INV.map (es':=es.modify j fun e=>{ e with key:=.agg ks.toArray,val:=a.eval v' }) (clock':=clock) hi hs hc (by
      have:(es.modify j fun e=>{ e with key:=.agg ks.toArray,val:=a.eval v' }).toList=es.toList.set j { e with key:=.agg ks.toArray,val:=a.eval v' }:=by
       apply List.ext_getElem?
       intro n
       rw [Array.getElem?_toList,Array.getElem?_modify,List.getElem?_set,Array.getElem?_toList]
       have hlt:=(List.getElem?_eq_some_iff.1 hje).1
       by_cases hjn:j=n
       ·subst hjn; simp [hj]; simpa using hlt
       ·simp [hjn]
      rw [this]; exact hre') (hbo.modify _ _ _) hbm
     refine ⟨κ,_,undef,.inr ⟨?_,rfl⟩,iK _,rfl,h5,h6,by simp⟩
     simp only [Nat.zero_add] at hfk
     simp [execOp,ho,h1,h2,Instr.mapUpdate,run_underlying ht,hgo,hck,hfk,hj,hek,hstay,run_setObj_map _ hc]
   ·cases hr
  ·cases hr
 ·cases hr
theorem HN (hi:INV bars κ σ w) (he:ENV κ σ.length env a.tmps) {esz len:Nat} {zero:List PV} {parts:List (Nat×Opd)} {parts':Array (Nat×Operand)} {t elem:TypeId} {i:TypeInfo} {z:Value} (hc:jh parts parts'.toList=true)
  (ht:P.underlying t=some (.slice elem)) (hei:P.info? elem=some i) (hs:i.size=esz) (hz:i.zero=some z) (hzs:z.cells.size=esz) (hzz:tN zero z.cells.toList=true) (h1:z.cells.toList.all Value.oneCell'=true) (hsmall:len * esz≤2 ^ 24) (hpos:0<esz) (hlen:len≠0)
  (ho:o.op=.buildSlice t len parts') (hr:opE bars env σ (.bslm esz len zero parts)=some r):OpOK bars κ σ w ((execOp a.eval o).run P w) r:=by
 simp only [opE,Option.bind_eq_some_iff] at hr
 obtain ⟨ps,hps,hr⟩:=hr
 split at hr
 ·rename_i hzl
  simp only [Option.bind_eq_some_iff,Option.some.injEq] at hr
  obtain ⟨es,hes,rfl⟩:=hr
  obtain ⟨h2,h3⟩:=gZ κ 0 zero _ hzz
  subst hs
  have hmade:=qb z.cells len
  rw [hzs] at hmade
  obtain ⟨cells',g1,g2,g3,g4,g5,g6⟩:=xH he (cells:=(Array.range (len * i.size)).map (z.cells[· % z.cells.size]!)) hc hps hes (fun e he=>by rw [List.eq_of_mem_replicate he]; exact hzl)
   (by rw [hzs,hmade]; exact RelL.replicate h2 len) (fun v hv=>by
    rw [hzs,hmade] at hv
    obtain ⟨l,hl,hv⟩:=List.mem_flatten.1 hv
    rw [List.eq_of_mem_replicate hl] at hv
    exact List.all_eq_true.1 h1 v hv) (gK fun e he=>by rw [List.eq_of_mem_replicate he]; exact h3)
  simp only [List.length_replicate] at g6
  have hrun:(Instr.buildSlice t len (parts'.map fun p=>(p.1,a.eval p.2))).run P w=.ok (.slice (some ⟨w.heap.size,0,none⟩) len len) (w.alloc (.cells cells' elem)) :=
   run_buildSlice w t elem len _ cells' i z ht hei hz (by omega) (by have:=Nat.mul_pos (Nat.pos_of_ne_zero hlen) hpos; omega) (by rw [Array.toList_map]; exact g1)
  have hcf:=hi.cap_fresh
  have hsz:cells'.size=len * i.size:=by
   have:=g2.length
   rw [qi g5,g6] at this
   simpa using this.symm
  let κ':Kn:={ κ with ρ:=fun j=>if j=σ.length then (w.heap.size,0) else κ.ρ j,gen:=fun j=>if j=σ.length then 0 else κ.gen j,esz:=fun j=>if j=σ.length then i.size else κ.esz j,cap:=fun b=>if b=w.heap.size then len * i.size else κ.cap b }
  have hext:Ext σ.length κ κ':=by
   refine ⟨fun j hj _=>?_,fun j hj=>?_,fun j hj=>?_,fun _ _ _=>rfl,fun _ _ _ h=>h,fun b=>?_⟩
   ·simp only [κ']; rw [if_neg (by omega)]
   ·simp only [κ']; rw [if_neg (by omega)]
   ·simp only [κ']; rw [if_neg (by omega)]; exact Nat.le_refl _
   ·simp only [κ']; split
    ·rename_i h; subst h; omega
    ·exact Nat.le_refl _
  obtain ⟨h6,h7⟩:=INV.push_ob (w':=w.alloc (.cells cells' elem)) (ob:=.arr 0 i.size es) (κ':=κ') hi rfl rfl rfl rfl hext (fun j hj=>by simp only [κ']; rw [if_neg (by omega)]) rfl
   (fun b hb=>by
    simp only [κ'] at hb ⊢
    split at hb
    ·rename_i h; subst h
     exact .inr ⟨rfl,_,_,_,rfl,by simp [hsz]⟩
    ·rename_i h; rw [if_neg h]; exact .inl ⟨hb,rfl⟩)
   (by
    refine ⟨by simp [κ'],by simp [κ'],⟨cells',elem,by simp only [κ',if_true]; exact mf _ _,g5,g3,[],[],cells'.toList,by simp,by simp [κ'],?_⟩,fun o _=>?_⟩
    ·exact RelL.mono hext _ _ (by rw [bZ]; exact bp (Nat.zero_le _) _ g4) g2
    ·simp only [κ',if_true]; exact hi.M_fresh (Nat.le_refl _) o)
   (fun b hb=>by simp only [ee,κ',if_true,Option.some.injEq] at hb; exact hb.symm)
   (by simp only [ba]; exact g4)
  refine ⟨_,_,.slice (some ⟨w.heap.size,0,none⟩) len len,.inl (by simp [execOp,ho,hrun]),⟨by simp [κ'],_,_,rfl,by simp,fun _ hm=>?_⟩,by simp [below],h6,h7,by simp⟩
  simp [κ']
 ·cases hr
theorem J3 (hi:INV bars κ σ w) (he:ENV κ σ.length env a.tmps) {x:Opd} {x':Operand} {t:TypeId} (hx:aJ x x'=true) (ht:∃ e,P.underlying t=some (.slice e))
  (ho:o.op=.call { callee:=.builtin .cap,args:=#[x'],argTypes:=#[t] }) (hr:opE bars env σ (.cap x)=some r):OpOK bars κ σ w ((execOp a.eval o).run P w) r:=by
 simp only [opE] at hr
 split at hr
 ·rename_i es hv
  split at hr
  ·cases hr
   obtain ⟨⟨ad,cap,esz,h1,h2,h3,-⟩,-⟩:=aA he hx hv
   have h3:=h3 rfl
   subst h3
   obtain ⟨e,ht⟩:=ht
   refine aL hi (x:=.int .i64 es.length) ?_ rfl rfl
   simp [execOp,ho,resolve,invoke,builtin,Builtin.cap_,underlying,ht,h1,goInt]
  ·cases hr
 ·cases hr
theorem xJ {P:Program} (w:World) (t tn ty e:TypeId) (i:TypeInfo) (z:Value) (k kn:IntKind) (ad:Option Addr) (ht:P.underlying t=some (.slice e)) (htn:P.underlying tn=some (.int kn)) (hi:P.info? e=some i) (hz:i.zero=some z)
  (n:Nat) (h0:0<n) (hs:0<i.size) (h63:(n:Int)≤9223372036854775807) (h48:n * i.bytes≤281474976710656) :
  (Builtin.append_ #[t,tn] ty #[.slice ad 0 0,.int k n]).run P w =
   .ok (.slice (some ⟨w.heap.size,0,none⟩) n (grownCap w n 0 e)) (w.drew.alloc (.cells (Builtin.zeroCells z.cells n++Builtin.zeroCells z.cells (grownCap w n 0 e - n)) e)):=by
 have hn:n≠0:=by omega
 have hw:IntKind.i64.wrap (n:Int)=n:=by rw [IntKind.wrap_i64]; omega
 have h63':¬ (9223372036854775807<(n:Int)):=by omega
 have h48':¬ (281474976710656<Builtin.nextslicecap n 0 * i.bytes):=by rw [nextslicecap_zero h0]; omega
 have h48i:¬ (281474976710656<(n:Int) * (i.bytes:Int)):=by
  rw [← Int.natCast_mul]
  omega
 have hneg:¬ ((n:Int)<0):=by omega
 have hns:¬ (n * i.size=0):=Nat.mul_ne_zero hn (by omega)
 have hf:∀ w:World,(Builtin.firstCells i.size 0 (.slice ad 0 0)).run P w=.ok #[] w:=by
  intro w
  cases ad with
  | none=>exact run_firstCells_none w i.size 0 0 0
  | some b=>exact run_firstCells_some w i.size 0 b 0 0 [] (by simp) (by simp)
 simp [Builtin.append_,run_underlying ht,run_underlying htn,sizeOf,typeInfo,zeroValue,hi,hz,asInt,asIntOf,hw,hn,hneg,hns,h63',h48',h48i,Question.forced,hf,newRow,grownCap]
theorem HO (hi:INV bars κ σ w) (he:ENV κ σ.length env a.tmps) {esz:Nat} {zero:List PV} {x l:Opd} {x' l':Operand} {t tx elem:TypeId} {i:TypeInfo} {z:Value} (hx:aJ x x'=true) (hl:aJ l l'=true)
  (ht:P.underlying t=some (.slice elem)) (htx:∃ kn,P.underlying tx=some (.int kn)) (hei:P.info? elem=some i) (hs:i.size=esz) (hz:i.zero=some z) (hzs:z.cells.size=esz) (hzz:tN zero z.cells.toList=true) (h1:z.cells.toList.all Value.oneCell'=true) (hby:i.bytes≤32768) (hpos:0<esz)
  (ho:o.op=.call { callee:=.builtin .append,args:=#[x',l'],argTypes:=#[t,tx] }) (hr:opE bars env σ (.appr esz zero x l)=some r):OpOK bars κ σ w ((execOp a.eval o).run P w) r:=by
 simp only [opE] at hr
 split at hr
 ·rename_i n hv hn
  split at hr
  ·rename_i hc
   obtain ⟨hn0,hnl,hzl⟩:=hc
   cases hr
   obtain ⟨⟨ad,cap,esz',e1,-,e3,-⟩,-⟩:=aA he hx hv
   have e3:=e3 rfl
   simp only [List.length_nil] at e1 e3
   subst e3
   obtain ⟨e2,-⟩:=aA he hl hn
   simp only [RelV] at e2
   obtain ⟨h4,h5⟩:=gZ κ 0 zero _ hzz
   subst hs
   obtain ⟨m,rfl⟩:∃ m:Nat,n=m:=⟨n.toNat,by omega⟩
   have hml:m≤LIM:=by omega
   have hm0:0<m:=by omega
   have hb:=fits hml hby
   obtain ⟨kn,htx⟩:=htx
   have hrun:=xJ (P:=P) w t tx o.type elem i z .i64 kn ad ht htx hei hz m hm0 hpos (by unfold LIM at hml; omega) (by omega)
   have hge:=grownCap_ge w m 0 elem
   generalize hG:grownCap w m 0 elem=G at hge hrun
   have hmade:=qb z.cells m
   generalize hrow:Builtin.zeroCells z.cells m++Builtin.zeroCells z.cells (G - m)=row at hrun
   have hrs:row.size=G * i.size:=by
    rw [← hrow,Array.size_append,size_zeroCells,size_zeroCells,hzs,← Nat.add_mul]; congr 1; omega
   have hcf:=hi.cap_fresh
   let κ':Kn:={ κ with ρ:=fun j=>if j=σ.length then (w.heap.size,0) else κ.ρ j,gen:=fun j=>if j=σ.length then 0 else κ.gen j,esz:=fun j=>if j=σ.length then i.size else κ.esz j,cap:=fun b=>if b=w.heap.size then G * i.size else κ.cap b }
   have hext:Ext σ.length κ κ':=by
    refine ⟨fun j hj _=>?_,fun j hj=>?_,fun j hj=>?_,fun _ _ _=>rfl,fun _ _ _ h=>h,fun b=>?_⟩
    ·simp only [κ']; rw [if_neg (by omega)]
    ·simp only [κ']; rw [if_neg (by omega)]
    ·simp only [κ']; rw [if_neg (by omega)]; exact Nat.le_refl _
    ·simp only [κ']; split
     ·rename_i h; subst h; omega
     ·exact Nat.le_refl _
   obtain ⟨h6,h7⟩:=INV.push_ob (w':=w.drew.alloc (.cells row elem)) (ob:=.arr 0 i.size (List.replicate m zero)) (κ':=κ') hi rfl rfl rfl rfl hext (fun j hj=>by simp only [κ']; rw [if_neg (by omega)]) rfl
    (fun b hb=>by
     simp only [κ'] at hb ⊢
     split at hb
     ·rename_i h; subst h
      exact .inr ⟨rfl,_,_,_,rfl,by simp [hrs]⟩
     ·rename_i h; rw [if_neg h]; exact .inl ⟨hb,rfl⟩)
    (by
     refine ⟨by simp [κ'],by simp [κ'],⟨row,elem,by simp only [κ',if_true]; exact mf w.drew _,fun e he=>by rw [List.eq_of_mem_replicate he]; exact hzl,fun v hv=>?_,[],(Builtin.zeroCells z.cells (G - m)).toList,(List.replicate m z.cells.toList).flatten,?_,by simp [κ'],?_⟩,fun o _=>?_⟩
     ·rw [← hrow,Array.toList_append,List.mem_append] at hv
      rcases hv with hv|hv
      ·exact wy _ (by omega) h1 v hv
      ·exact wy _ (by omega) h1 v hv
     ·rw [← hrow,Array.toList_append,List.nil_append]
      congr 1
     ·exact RelL.replicate (RelL.mono hext _ _ (br (Nat.zero_le _) _ h5) h4) m
     ·simp only [κ',if_true]; exact hi.M_fresh (Nat.le_refl _) o)
    (fun b hb=>by simp only [ee,κ',if_true,Option.some.injEq] at hb; exact hb.symm)
    (by simp only [ba]; exact gK fun e he=>by rw [List.eq_of_mem_replicate he]; exact h5)
   refine ⟨_,_,.slice (some ⟨w.heap.size,0,none⟩) m G,.inl ?_,⟨by simp [κ'],_,_,rfl,hge,fun _ hm=>?_⟩,by simp [below],h6,h7,by simp⟩
   ·simp [execOp,ho,resolve,invoke,builtin,e1,e2,hrun]
   ·simp [κ']
  ·cases hr
 ·cases hr
end
end Go.Ev

namespace Go.Ev
variable [CodeRel]
theorem ENV.mono {n m:Nat} {κ κ':Kn} {env:Env} {tmps:Array Value} (h:ENV κ n env tmps) (he:Ext n κ κ') (hnm:n≤m):ENV κ' m env tmps :=
 ⟨fun s v hs=>RelV.mono he v _ (h.wf s v hs) (h.rel s v hs),fun s v hs=>bk hnm v (h.wf s v hs),h.lt⟩
theorem ENV.cons' {n:Nat} {κ:Kn} {env:Env} {tmps:Array Value} (h:ENV κ n env tmps) {d:Nat} {v:PV} (hd:d<tmps.size) (hv:RelV κ v (tmps.getD d undef)) (hb:below n v=true):ENV κ n ((d,v)::env) tmps:=by
 refine ⟨fun s u hs=>?_,fun s u hs=>?_,fun s u hs=>?_⟩<;>simp only [bw] at hs<;>split at hs
 ·rename_i hds; subst hds; cases hs; exact hv
 ·exact h.rel s u hs
 ·cases hs; exact hb
 ·exact h.wf s u hs
 ·rename_i hds; subst hds; exact hd
 ·exact h.lt s u hs
theorem INV.push_tok {bars:List Nat} {κ:Kn} {σ:Sto} {w:World} (h:INV bars κ σ w) (esz:Nat) :
  let κ':Kn:={ κ with gen:=fun j=>if j=σ.length then 0 else κ.gen j,esz:=fun j=>if j=σ.length then esz else κ.esz j,tok:=fun j=>if j=σ.length then none else κ.tok j }
  INV bars κ' (σ++[.tok esz 0]) w∧Kept σ.length κ σ w κ' (σ++[.tok esz 0]) w:=by
 intro κ'
 have hext:Ext σ.length κ κ':=by
  refine ⟨fun j _ _=>rfl,fun j hj=>?_,fun j hj=>?_,fun j hj _=>?_,fun _ _ _ h=>h,fun _=>Nat.le_refl _⟩
  ·simp only [κ']; rw [if_neg (by omega)]
  ·simp only [κ']; rw [if_neg (by omega)]; exact Nat.le_refl _
  ·simp only [κ']; rw [if_neg (by omega)]
 refine INV.one h σ.length (.tok esz 0) (Nat.le_refl _) (by simp) (by simp) (fun j hj=>?_) hext (fun j hj _=>by simp only [κ']; rw [if_neg (by omega)]) (Nat.le_refl _) (fun _ _ _=>rfl) (fun _ _ _ _=>rfl)
  ⟨by simp [κ'],by simp [κ'],fun b e f hk=>by simp [κ'] at hk⟩ (fun b hb=>by simp [ee,κ'] at hb) h.mem h.cap rfl (fun n hn hlt=>by have:=(h.wfb n hn).1; omega) rfl rfl rfl
 rcases Nat.lt_or_ge j σ.length with h|h
 ·rw [List.getElem?_append_left h]
 ·rw [List.getElem?_eq_none (by simp; omega),List.getElem?_eq_none h]
section
variable {P:Program} {bars:List Nat} {κ:Kn} {σ:Sto} {w:World} {env:Env} {a:Act} {o:Oper} {r:OpR}
theorem OpOK.of_push {κ1:Kn} {σ1:Sto} {res:Result Next} {v:PV} {σ':Sto} (hk:Kept σ.length κ σ w κ1 σ1 w) (hl:σ.length≤σ1.length) (h:OpOK bars κ1 σ1 w res (.val v σ')):OpOK bars κ σ w res (.val v σ'):=by
 obtain ⟨κ',w',x,h1,h2,h3,h4,h5,h6⟩:=h
 exact ⟨κ',w',x,h1,h2,h3,h4,hk.trans h5 hl,Nat.le_trans hl h6⟩
theorem ED {y:PV} {ob:Ob} (hb:below σ.length y=true):df (σ++[ob]) y=df σ y:=by
 cases y with
 | rs id ver off len =>
  simp only [below,decide_eq_true_eq] at hb
  simp only [df,List.getElem?_append_left hb]
 | k v =>
  cases v with
  | slice q n c=>cases n<;>rfl
  | _=>rfl
 | _=>rfl
theorem HP (hi:INV bars κ σ w) (he:ENV κ σ.length env a.tmps) {esz:Nat} {x y:Opd} {x' y':Operand} {t tx elem:TypeId} {i:TypeInfo} {z:Value} (hx:aJ x x'=true) (hy:aJ y y'=true)
  (ht:P.underlying t=some (.slice elem)) (htx:∃ e',P.underlying tx=some (.slice e')) (hei:P.info? elem=some i) (hs:i.size=esz) (hz:i.zero=some z) (hzs:z.cells.size=esz) (hz1:z.cells.toList.all Value.oneCell'=true) (hby:i.bytes≤32768) (hpos:0<esz)
  (ho:o.op=.call { callee:=.builtin .append,args:=#[x',y'],argTypes:=#[t,tx] }) (hr:opE bars env σ (.appo esz x y)=some r):OpOK bars κ σ w ((execOp a.eval o).run P w) r:=by
 cases x with
 | c _=>simp [opE] at hr
 | t s =>
  simp only [opE] at hr
  split at hr
  ·rename_i hl
   simp only [Option.bind_eq_some_iff] at hr
   obtain ⟨u,hu,ys,hys,hr⟩:=hr
   split at hr
   ·rename_i hall
    split at hr
    ·rename_i h0
     cases hr
     refine qa hi he hx hy ht htx hei hs hz hzs hz1 hby hpos ho ?_
     have hnil:ys=[]:=List.length_eq_zero_iff.1 h0
     have hl':ev env (.t s)=some (.sl true []):=hl
     have h1:df σ (.sl true [])=some []:=rfl
     simp only [opE,hl',hu,Option.bind_some,h1,hys,hall,bV,and_self,if_true,tM,h0]
    ·rename_i h0
     split at hr
     ·rename_i hlim
      cases hr
      obtain ⟨h1,h2⟩:=hi.push_tok esz
      have hwf:=he.wf s _ hl
      have hrel:=he.rel s _ hl
      have hlt:=he.lt s _ hl
      have he1:=he.mono h2.ext (m:=(σ++[Ob.tok esz 0]).length) (by simp)
      obtain ⟨ad,cap,es,hx',hc,htt,hE⟩:=hrel
      have hc0:cap=0:=by simpa using htt rfl
      subst hc0
      have hnew:RelV { κ with gen:=fun j=>if j=σ.length then 0 else κ.gen j,esz:=fun j=>if j=σ.length then esz else κ.esz j,tok:=fun j=>if j=σ.length then none else κ.tok j } (.ow σ.length 0 []) (a.tmps.getD s undef) :=
       ⟨Nat.zero_le _,ad,0,es,hx',Nat.le_refl _,fun hne=>absurd rfl hne,fun _=>by simp [nN]⟩
      have he2:=he1.cons' hlt hnew (by simp [below,below.belowEs])
      have hub:below σ.length u=true:=by
       cases y with
       | t m=>exact he.wf m _ hu
       | c v=>exact (aA he hy hu).2
      have hev:ev ((s,PV.ow σ.length 0 [])::env) y=some u:=by
       cases y with
       | c v=>exact hu
       | t m =>
        simp only [ev,bw]
        by_cases hm:s=m
        ·subst hm
         simp only [ev,hl,Option.some.injEq] at hu
         subst hu
         simp only [df,Option.some.injEq] at hys
         subst hys
         exact absurd rfl h0
        ·rw [if_neg hm]; exact hu
      refine OpOK.of_push h2 (by simp) (qa h1 he2 hx hy ht htx hei hs hz hzs hz1 hby hpos ho ?_)
      have hl':ev ((s,PV.ow σ.length 0 [])::env) (.t s)=some (.ow σ.length 0 []):=by simp [ev,bw]
      have h3:df (σ++[Ob.tok esz 0]) (.ow σ.length 0 [])=some []:=rfl
      simp only [opE,hl',hev,Option.bind_some,ED hub,hys,h3,hall,bV,and_self,if_true,tM,List.getElem?_append_right (Nat.le_refl _),Nat.sub_self,List.getElem?_cons_zero]
      have hp:0<ys.length:=Nat.pos_of_ne_zero h0
      simp [hp,hlim]
     ·cases hr
   ·cases hr
  ·cases hr
theorem Lx {esz:Nat} {x y:Opd} (hr:opE bars env σ (.appq esz x y)=some r):opE bars env σ (.app esz x y)=some r:=by
 simp only [opE,Option.bind_eq_some_iff] at hr ⊢
 obtain ⟨v,hv,u,hu,ys,hys,hr⟩:=hr
 split at hr
 ·rename_i t es
  split at hr
  ·rename_i hall
   refine ⟨_,hv,u,hu,es,rfl,ys,hys,?_⟩
   rw [if_pos hall]
   split at hr
   ·rename_i h0
    cases hr
    simp only [tM,h0,if_true,Option.bind_some]
   ·rename_i h0
    split at hr
    ·rename_i ht
     cases hr
     simp only [tM,h0,if_false,ht.1,true_and,if_pos ht.2,Option.bind_some]
    ·cases hr
  ·cases hr
 ·cases hr
theorem F5 {esz:Nat} {x y:Opd} (hr:opE bars env σ (.appq esz x y)=some r):∃ v,r=.val v σ:=by
 simp only [opE,Option.bind_eq_some_iff] at hr
 obtain ⟨v,hv,u,hu,ys,hys,hr⟩:=hr
 repeat' split at hr
 all_goals first|(cases hr; exact ⟨_,rfl⟩)|cases hr
theorem Ly {av:List Nat} {esz:Nat} {x y:Opd} (hr:opE bars env σ (.appm av esz x y)=some r):opE bars env σ (.app esz x y)=some r:=by
 simp only [opE,Option.bind_eq_some_iff] at hr ⊢
 obtain ⟨v,hv,hr⟩:=hr
 split at hr
 ·simp only [Option.bind_eq_some_iff] at hr
  obtain ⟨u,hu,p,hp,hr⟩:=hr
  unfold tY at hp
  split at hp
  ·split at hp
   ·rename_i hall
    exact ⟨_,hv,_,hu,_,rfl,_,rfl,by rw [if_pos hall,hp]; exact hr⟩
   ·cases hp
  ·split at hp
   ·rename_i hall
    exact ⟨_,hv,_,hu,_,rfl,_,rfl,by rw [if_pos hall,hp]; exact hr⟩
   ·cases hp
  ·cases hp
 ·cases hr
theorem HQ {m:Nat} {n:Option Nat} {a:Opd} (hr:opE bars env σ (.loadb m n a)=some r):opE bars env σ (.load n a)=some r:=by
 simp only [opE,Option.bind_eq_some_iff] at hr ⊢
 obtain ⟨p,hp,hr⟩:=hr
 split at hr
 ·simp only [Option.bind_eq_some_iff] at hr
  exact ⟨p,hp,hr⟩
 ·cases hr
theorem I6 {σ:Sto} {p:Nat} {x:Ob} (h:σ[p]? = some x):σ.set p x=σ:=by
 apply List.ext_getElem?
 intro i
 rw [List.getElem?_set]
 split
 ·rename_i hp; subst hp
  rw [h]; simp [(List.getElem?_eq_some_iff.1 h).1]
 ·rfl
theorem F6 {esz:Nat} {v u:PV} {p:PV×Sto} (h:tY esz σ v u=some p):(p.2=σ∧∀ τ,tY esz τ v u=some (p.1,τ)) ∨
  ∃ id ob,top v=some id∧id<σ.length∧p.2=σ.set id ob∧∀ τ:Sto,τ[id]? = σ[id]?→tY esz τ v u=some (p.1,τ.set id ob):=by
 unfold tY at h
 split at h
 ·rename_i id n es t ys
  split at h
  ·rename_i hall
   simp only [tM] at h
   split at h
   ·rename_i k m hs
    split at h
    ·rename_i hc
     cases h
     refine .inr ⟨id,_,rfl,(List.getElem?_eq_some_iff.1 hs).1,rfl,fun τ hτ=>?_⟩
     simp only [tY,if_pos hall,tM,hτ,hs,if_pos hc]
    ·rename_i hc
     split at h
     ·rename_i h0
      cases h
      refine .inr ⟨id,_,rfl,(List.getElem?_eq_some_iff.1 hs).1,(I6 hs).symm,fun τ hτ=>?_⟩
      simp only [tY,if_pos hall,tM,hτ,hs,if_neg hc,if_pos h0,I6 (hτ.trans hs)]
     ·cases h
   ·cases h
  ·cases h
 ·rename_i t es t' ys
  split at h
  ·rename_i hall
   simp only [tM] at h
   split at h
   ·rename_i h0
    cases h
    exact .inl ⟨rfl,fun τ=>by simp only [tY,if_pos hall,tM,if_pos h0]⟩
   ·rename_i h0
    split at h
    ·rename_i hc
     cases h
     exact .inl ⟨rfl,fun τ=>by simp only [tY,if_pos hall,tM,if_neg h0,if_pos hc]⟩
    ·cases h
  ·cases h
 ·cases h
end
end Go.Ev

namespace Go.Ev
variable [CodeRel]
section
variable {P:Program} {bars:List Nat} {κ:Kn} {σ:Sto} {w:World} {env:Env} {a:Act} {o:Oper} {r:OpR}
theorem HR (hi:INV bars κ σ w) (he:ENV κ σ.length env a.tmps) {esz:Nat} {x y:Opd} {x' y':Operand} {t tx elem:TypeId} {i:TypeInfo} {z:Value} (hx:aJ x x'=true) (hy:aJ y y'=true)
  (ht:P.underlying t=some (.slice elem)) (htx:∃ e',P.underlying tx=some (.slice e')) (hei:P.info? elem=some i) (hs:i.size=esz) (hz:i.zero=some z) (hzs:z.cells.size=esz) (hz1:z.cells.toList.all Value.oneCell'=true) (hby:i.bytes≤32768) (hpos:0<esz)
  (ho:o.op=.call { callee:=.builtin .append,args:=#[x',y'],argTypes:=#[t,tx] }) (hr:opE bars env σ (.appx esz x y)=some r):OpOK bars κ σ w ((execOp a.eval o).run P w) r:=by
 simp only [opE,Option.bind_eq_some_iff] at hr
 obtain ⟨v,hv,u,hu,xs,hxs,ys,hys,hr⟩:=hr
 split at hr
 ·rename_i hall
  split at hr
  ·rename_i hti
   obtain ⟨hti,hpy⟩:=hti
   split at hr
   ·rename_i hc
    obtain ⟨hlim,hb0⟩:=hc
    cases hr
    obtain ⟨hall1,hall2⟩:=hall
    obtain ⟨h1,h2⟩:=aA he hx hv
    obtain ⟨h3,h4⟩:=aA he hy hu
    obtain ⟨ady,capy,news,hyv,hcy,hsrc,hnews⟩:=xG hi htx h3 hys hall2
    obtain ⟨adx,capx,olds,hxv,hcx,hsrcx,holds⟩:=xG hi ⟨_,ht⟩ h1 hxs hall1
    have hylen:=gz hall2
    have hxlen:=gz hall1
    have hnl:news.length=ys.length * esz:=hsrc.newsLen
    have hol:olds.length=xs.length * esz:=hsrcx.newsLen
    subst hs
    have hcapx:capx=xs.length:=by
     unfold uS at hti
     split at hti
     ·rename_i es
      simp only [df,Option.some.injEq] at hxs
      subst hxs
      obtain ⟨ad,cap,esz',hx',-,ht',-⟩:=h1
      rw [hxv] at hx'
      cases hx'
      exact ht' rfl
     ·cases hti
    have hg:capx<xs.length+ys.length:=by omega
    have hcd:=hsrcx.cellsD
    rw [hxv] at hcd
    have hrun:=run_append_grow_src (P:=P) w t tx o.type elem i z ht hei hz adx xs.length capx olds hcd (a.eval y') ys.length news hsrc hg (by unfold LIM at hlim; omega) (growslice_fits hg (fits hlim hby))
    have hge:=grownCap_ge w (xs.length+ys.length) capx elem
    generalize hG:grownCap w (xs.length+ys.length) capx elem=G at hge hrun
    have hgrow:(execOp a.eval o).run P w=.ok (.value (.slice (some ⟨w.heap.size,0,none⟩) (xs.length+ys.length) G)) (w.drew.alloc (.cells ((olds++news).toArray++Builtin.zeroCells z.cells (G - (xs.length+ys.length))) elem)):=by
     simp [execOp,ho,resolve,invoke,builtin,hxv,hrun]
    have hal:(olds++news).length=(xs.length+ys.length) * i.size:=by rw [List.length_append,hol,hnl,Nat.add_mul]
    generalize hrow:(olds++news).toArray++Builtin.zeroCells z.cells (G - (xs.length+ys.length))=row at hgrow
    have hrs:row.size=G * i.size:=by
     rw [← hrow,Array.size_append,size_zeroCells,hzs]
     simp only [List.size_toArray,hal]
     rw [← Nat.add_mul]; congr 1; omega
    have hrow1:∀ v∈row.toList,v.oneCell'=true:=by
     intro v hv
     rw [← hrow,Array.toList_append,List.mem_append] at hv
     rcases hv with hv|hv
     ·rcases List.mem_append.1 (by simpa using hv:v∈olds++news) with hv|hv
      ·exact hsrcx.one v hv
      ·exact hsrc.one v hv
     ·exact wy _ (by omega) hz1 v hv
    have hcf:=hi.cap_fresh
    let κ':Kn:={ κ with ρ:=fun j=>if j=σ.length then (w.heap.size,0) else κ.ρ j,gen:=fun j=>if j=σ.length then 1 else κ.gen j,esz:=fun j=>if j=σ.length then i.size else κ.esz j,cap:=fun b=>if b=w.heap.size then G * i.size else κ.cap b }
    have hext:Ext σ.length κ κ':=by
     refine ⟨fun j hj _=>?_,fun j hj=>?_,fun j hj=>?_,fun _ _ _=>rfl,fun _ _ _ h=>h,fun b=>?_⟩
     ·simp only [κ']; rw [if_neg (by omega)]
     ·simp only [κ']; rw [if_neg (by omega)]
     ·simp only [κ']; rw [if_neg (by omega)]; exact Nat.le_refl _
     ·simp only [κ']; split
      ·rename_i h; subst h; omega
      ·exact Nat.le_refl _
    have hbn:below.belowAll σ.length (xs++ys).flatten=true:=by rw [bZ]; exact bp (Nat.zero_le _) _ hb0
    obtain ⟨h6,h7⟩:=INV.push_ob (w':=w.drew.alloc (.cells row elem)) (ob:=.arr 1 i.size (xs++ys)) (κ':=κ') hi rfl rfl rfl rfl hext (fun j hj=>by simp only [κ']; rw [if_neg (by omega)]) rfl
     (fun b hb=>by
      simp only [κ'] at hb ⊢
      split at hb
      ·rename_i h; subst h
       exact .inr ⟨rfl,_,_,_,rfl,by simp [hrs]⟩
      ·rename_i h; rw [if_neg h]; exact .inl ⟨hb,rfl⟩)
     (by
      refine ⟨by simp [κ'],by simp [κ'],⟨row,elem,by simp only [κ',if_true]; simp [cO],fun e he=>(List.mem_append.1 he).elim (hxlen e) (hylen e),hrow1,[],(Builtin.zeroCells z.cells (G - (xs.length+ys.length))).toList,olds++news,by rw [← hrow]; simp,by simp [κ'],?_⟩,fun o _=>?_⟩
      ·rw [List.flatten_append] at hbn ⊢
       exact RelL.mono hext _ _ hbn (RelL.append holds hnews)
      ·simp only [κ',if_true]; exact hi.M_fresh (Nat.le_refl _) o)
     (fun b hb=>by simp only [ee,κ',if_true,Option.some.injEq] at hb; exact hb.symm)
     (by simpa only [ba] using hb0)
    refine ⟨_,_,_,.inl hgrow,⟨by simp [κ'],_,_,rfl,hge,fun _ hm=>?_⟩,by simp [below],h6,h7,by simp⟩
    simp [κ']
   ·cases hr
  ·refine qa hi he hx hy ht htx hei hs hz hzs hz1 hby hpos ho ?_
   simp only [opE,hv,hu,hxs,hys,Option.bind_some,if_pos hall]
   exact hr
 ·cases hr
theorem INV.push_barr {bars:List Nat} {κ:Kn} {σ:Sto} {w:World} (h:INV bars κ σ w) (E:Nat) :
  let κ':Kn:={ κ with gen:=fun j=>if j=σ.length then 0 else κ.gen j,esz:=fun j=>if j=σ.length then 1 else κ.esz j,tok:=fun j=>if j=σ.length then none else κ.tok j }
  INV bars κ' (σ++[.barr E 0 ⟨#[]⟩]) w∧Kept σ.length κ σ w κ' (σ++[.barr E 0 ⟨#[]⟩]) w:=by
 intro κ'
 have hext:Ext σ.length κ κ':=by
  refine ⟨fun j _ _=>rfl,fun j hj=>?_,fun j hj=>?_,fun j hj _=>?_,fun _ _ _ h=>h,fun _=>Nat.le_refl _⟩
  ·simp only [κ']; rw [if_neg (by omega)]
  ·simp only [κ']; rw [if_neg (by omega)]; exact Nat.le_refl _
  ·simp only [κ']; rw [if_neg (by omega)]
 refine INV.one h σ.length (.barr E 0 ⟨#[]⟩) (Nat.le_refl _) (by simp) (by simp) (fun j hj=>?_) hext (fun j hj _=>by simp only [κ']; rw [if_neg (by omega)]) (Nat.le_refl _) (fun _ _ _=>rfl) (fun _ _ _ _=>rfl)
  ⟨by simp [κ'],by simp [κ'],fun _=>rfl,fun h=>absurd rfl h⟩ (fun b hb=>by simp [ee] at hb) h.mem h.cap rfl (fun n hn hlt=>by have:=(h.wfb n hn).1; omega) rfl rfl rfl
 rcases Nat.lt_or_ge j σ.length with h|h
 ·rw [List.getElem?_append_left h]
 ·rw [List.getElem?_eq_none (by simp; omega),List.getElem?_eq_none h]
theorem EE (hi:INV bars κ σ w) {T E:Nat} {i:TypeInfo} {z:Value} (hti:P.info? T=some i) (hz:i.zero=some z) (hc:tN [.k (.pointer none),.sl true []] z.cells.toList=true) (h1:z.cells.toList.all Value.oneCell'=true)
  (ho:o.op=.alloc T) (hr:opE bars env σ (.allocb T E)=some r):OpOK bars κ σ w ((execOp a.eval o).run P w) r:=by
 simp only [opE,Option.some.injEq] at hr
 subst hr
 obtain ⟨g1,g2⟩:=hi.push_barr E
 refine OpOK.of_push g2 (by simp) ?_
 generalize hκ:({ κ with gen:=fun j=>if j=σ.length then 0 else κ.gen j,esz:=fun j=>if j=σ.length then 1 else κ.esz j,tok:=fun j=>if j=σ.length then none else κ.tok j }:Kn)=κ1 at g1 g2
 have hlen:(σ++[Ob.barr E 0 ⟨#[]⟩]).length=σ.length+1:=by simp
 rw [← hlen]
 generalize hσ:σ++[Ob.barr E 0 ⟨#[]⟩]=σ1 at *
 obtain ⟨h2,h3⟩:=gZ κ1 σ1.length _ _ hc
 simp only [RelL] at h2
 obtain ⟨p,l,e1,hp,v,l2,rfl,hv,rfl⟩:=h2
 simp only [RelV] at hp
 subst hp
 have hcell:z.cells=#[.pointer none,v]:=Array.toList_inj.1 (by simpa using e1)
 have hext:=Ext.at κ1 σ1.length w.heap.size
 have hone:v.oneCell'=true:=List.all_eq_true.1 h1 v (by rw [e1]; simp)
 obtain ⟨h6,h7⟩:=INV.push_ob (w':=w.alloc (.cells z.cells T)) (ob:=.bld T false (.sl true []) σ.length) (κ':=κ1.at σ1.length w.heap.size) g1 rfl rfl rfl rfl hext (fun j hj=>by simp [Kn.at,Nat.ne_of_lt hj]) rfl (fun b hb=>.inl ⟨hb,rfl⟩)
  (by
   refine ⟨by simp [Kn.at],by simp [Kn.at],⟨v,?_,RelV.mono (n:=σ1.length) hext _ _ rfl hv,hone⟩,fun o=>?_⟩
   ·simp only [Kn.at,if_true]; rw [hcell]; exact mf _ _
   ·simp only [Kn.at,if_true]; exact g1.M_fresh (Nat.le_refl _) o)
  (fun b hb=>by simp [ee,Kn.at] at hb; exact hb.symm) (by simp only [ba,below,below.belowEs,Bool.true_and,decide_eq_true_eq]; omega)
 refine ⟨_,_,.pointer (some ⟨w.heap.size,0,none⟩),.inl ?_,⟨⟨w.heap.size,0,none⟩,rfl,by simp [Kn.at],fun _=>?_⟩,by simp [below],h6,h7,by simp⟩
 ·simp [execOp,ho,Instr.alloc,zeroValue,typeInfo,hti,hz,newVar,newRow]
 ·simp [Kn.at]
end
end Go.Ev

namespace Go.Ev
variable [CodeRel]
def EF (P:Program) (t:TypeId) (zero:List PV):Bool:=match P.info? t with
 | some i=>match i.zero with
  | some z=>tN zero z.cells.toList && z.cells.toList.all Value.oneCell'
  | none=>false
 | none=>false
def I7 (P:Program) (t:TypeId) (zero:PV):Bool:=match P.info? t with
 | some i=>match i.zero with
  | some z=>eqC zero z
  | none=>false
 | none=>false
def mH (P:Program) (t:TypeId) (esz:Nat):Bool:=match P.underlying t with
 | some (.slice e)=>match P.info? e with
  | some i=>i.size == esz && decide (0<esz) && decide (i.bytes≤32768) && (match i.zero with|some z=>z.cells.size == esz && z.cells.toList.all Value.oneCell'|none=>false)
  | none=>false
 | _=>false
def qk (P:Program) (t:TypeId) (zero:List PV):Bool:=match P.underlying t with
 | some (.slice e)=>match P.info? e with
  | some i=>match i.zero with
   | some z=>tN zero z.cells.toList
   | none=>false
  | none=>false
 | _=>false
def sf:List Opd→List Operand→Bool
 | [],[]=>true
 | x::r,y::s=>aJ x y && sf r s
 | _,_=>false
def Au (P:Program) (t:TypeId):Bool:=match P.underlying t with
 | some (.interface _)=>true
 | some _=>false
 | none=>true
def P4 (P:Program) (t:TypeId):Bool:=match P.underlying t with
 | some (.interface _)=>true
 | _=>false
def F7 (P:Program) (t:TypeId) (str:Bool):Bool:=match P.underlying t with
 | some (.map kt _)=>match P.underlying kt with
  | some .string=>str
  | some (.int _)=>!str
  | _=>false
 | _=>false
def EG (P:Program) (t:TypeId) (kd:List Bool):Bool:=match P.underlying t with
 | some (.map kt _)=>match P.underlying kt with
  | some (.struct fs)=>!P.stoodInHeld kt && AX P 0 kd fs.toList
  | _=>false
 | _=>false
def HS (P:Program) (kt:TypeId) (kd:List Bool):Bool:=match P.underlying kt with
 | some (.struct fs)=>!P.stoodInHeld kt && AX P 0 kd fs.toList
 | _=>false
theorem F8 {P:Program} {kt:TypeId} {kd:List Bool} (h:HS P kt kd=true):CL P kd kt:=by
 unfold HS at h
 split at h
 ·rename_i fs hk
  simp only [Bool.and_eq_true,Bool.not_eq_true'] at h
  exact ⟨fs,hk,h.1,h.2⟩
 ·cases h
def Aw (P:Program) (t:TypeId) (zero:PV):Bool:=match P.underlying t with
 | some (.map _ et)=>I7 P et zero
 | _=>false
def P5 (P:Program) (t:TypeId) (k off:Nat) (n:Option Nat):Bool:=match P.underlying t with
 | some (.struct fs)=>match fs[k]? with
  | some f=>f.offset == off && xD P f.type (n.getD 1) && wt P f.type n.isSome
  | none=>false
 | _=>false
def I8 (P:Program) (t:TypeId) (k off:Nat):Bool:=match P.underlying t with
 | some (.struct fs)=>match fs[k]? with
  | some f=>f.offset == off && (match P.info? f.type with|some i=>i.size != 0|none=>false)
  | none=>false
 | _=>false
def P6 (P:Program) (t:TypeId) (arr:Option Nat) (esz:Nat):Bool:=match P.underlying t,arr with
 | some (.slice e),none=>xD P e esz
 | some (.array n e),some m=>n == m && xD P e esz
 | _,_=>false
def P7 (P:Program) (t:TypeId) (esz:Nat):Bool:=match P.underlying t with
 | some .string=>esz == 0
 | some (.slice e)=>xD P e esz && esz != 0
 | _=>false
def iM (P:Program) (t:TypeId) (f:TypeDesc→Bool):Bool:=match P.underlying t with|some d=>f d|none=>false
def gh:TypeDesc→Bool|.slice _=>true|_=>false
def za:TypeDesc→Bool|.string=>true|_=>false
def Lz:TypeDesc→Bool|.bool=>true|_=>false
def P8 (k:IntKind):TypeDesc→Bool|.int j=>j == k|_=>false
def LA:TypeDesc→Bool|.int _=>true|_=>false
def mOK (P:Program) (t:TypeId) (name:String) (f:FuncId):Bool:=match P.info? t with
 | some i=>(match i.methods.find? (·.name == name) with
  | some m=>m.path.isEmpty && (match m.func with
   | some (g,pr)=>g == f && (match P.underlying t with
    | some (.pointer _)=>pr
    | some _=>!pr
    | none=>false)
   | none=>false)
  | none=>false)
 | none=>false
def Ax (P:Program) (x:IOp) (c:Call):Bool :=
 match x,c.callee,c.args.toList,c.argTypes.toList with
 | .len str x,.builtin .len,[x'],[t]=>aJ x x' && iM P t (if str then za else gh)
 | .mm mx x y,.builtin b,[x',y'],_=>(match b with|.max=>mx|.min=>!mx|_=>false) && aJ x x' && aJ y y'
 | .app esz x y,.builtin .append,[x',y'],[t,tx]=>aJ x x' && aJ y y' && mH P t esz && iM P tx gh
 | .appz esz x y,.builtin .append,[x',y'],[t,tx]=>aJ x x' && aJ y y' && mH P t esz && iM P tx gh
 | .appo esz x y,.builtin .append,[x',y'],[t,tx]=>aJ x x' && aJ y y' && mH P t esz && iM P tx gh
 | .apps x y,.builtin .append,[x',y'],[t,tx]=>aJ x x' && aJ y y' && mH P t 1 && iM P tx za
 | .appx esz x y,.builtin .append,[x',y'],[t,tx]=>aJ x x' && aJ y y' && mH P t esz && iM P tx gh
 | .appq esz x y,.builtin .append,[x',y'],[t,tx]=>aJ x x' && aJ y y' && mH P t esz && iM P tx gh
 | .appm av esz x y,.builtin .append,[x',y'],[t,tx]=>aJ x x' && aJ y y' && mH P t esz && iM P tx gh
 | .cap x,.builtin .cap,[x'],[t]=>aJ x x' && iM P t gh
 | .appr esz zero x l,.builtin .append,[x',l'],[t,tx]=>aJ x x' && aJ l l' && mH P t esz && qk P t zero && iM P tx LA
 | .del str m k,.builtin .delete,[m',k'],[t,_]=>aJ m m' && aJ k k' && F7 P t str
 | .call (.f n) args,.value (.func g),args',_=>n == g && decide (n<YB) && sf args args'
 | .call (.v x) args,.value y,args',_=>aJ x y && sf args args'
 | .call (.m x tab) args,.invoke y name,args',_=>aJ x y && sf args args' && tab.all fun p=>mOK P p.1 name p.2
 | .callq (.f n) args,.value (.func g),args',_=>n == g && decide (n<YB) && sf args args'
 | .callq (.v x) args,.value y,args',_=>aJ x y && sf args args'
 | .callg (.f n) args,.value (.func g),args',_=>n == g && decide (n<YB) && sf args args'
 | .callm _ (.f n) args,.value (.func g),args',_=>n == g && decide (n<YB) && sf args args'
 | .callm _ (.v x) args,.value y,args',_=>aJ x y && sf args args'
 | _,_,_,_=>false
def zb (P:Program) (x:IOp) (o:Op):Bool :=
 match x,o with
 | .mov x,.move y=>aJ x y
 | .mov x,.assign y=>aJ x y
 | .pick c x y,.pick c' x' y'=>aJ c c' && aJ x x' && aJ y y'
 | .alloc zero,.alloc t=>EF P t zero
 | .allocb T E,.alloc t=>t == T && EF P t [.k (.pointer none),.sl true []]
 | .box _ x,.box _ y=>aJ x y
 | .build zero parts,.build t parts'=>(match wz P t with
  | some (z,pl)=>qj pl parts parts'.toList && tN zero z.toList && z.toList.all Value.oneCell'
  | none=>false)
 | .bslice esz len zero parts,.buildSlice t len' parts'=>len == len' && jh parts parts'.toList && mH P t esz && qk P t zero && decide (len * esz≤2 ^ 24) && (len != 0 || parts.isEmpty)
 | .bslm esz len zero parts,.buildSlice t len' parts'=>len == len' && jh parts parts'.toList && mH P t esz && qk P t zero && decide (len * esz≤2 ^ 24) && len != 0
 | .load n x,.load t y=>aJ x y && xD P t (n.getD 1) && wt P t n.isSome
 | .loadb _ n x,.load t y=>aJ x y && xD P t (n.getD 1) && wt P t n.isSome
 | .store n x y,.store t x' y'=>aJ x x' && aJ y y' && xD P t n
 | .storeb _ n x y,.store t x' y'=>aJ x x' && aJ y y' && xD P t n
 | .storem _ n x y,.store t x' y'=>aJ x x' && aJ y y' && xD P t n
 | .nilc x,.nilCheck y=>aJ x y
 | .bin op x y,.binOp op' _ x' y' _=>op == op' && aJ x x' && aJ y y'
 | .stq kd neg x y,.binOp op' t x' y' _=>op' == (if neg then .neq else .eql) && aJ x x' && aJ y y' && HS P t kd && !P.eqGuardType P.depth t
 | .beq neg x y,.binOp op' t x' y' _=>op' == (if neg then .neq else .eql) && aJ x x' && aJ y y' && iM P t Lz
 | .not x,.unOp .not _ y=>aJ x y
 | .neg x,.unOp .neg _ y=>aJ x y
 | .conv k x,.convert s t y=>aJ x y && iM P s (fun _=>true) && iM P t (P8 k)
 | .strc x,.convert s t y=>aJ x y && iM P s (fun _=>true) && iM P t za
 | .miface t x,.makeInterface t' y=>t == t' && aJ x y && !Au P t
 | .mbm f xs,.makeFunc (.func g) first cap'=>f == g && cap'.isEmpty && sf xs first.toList
 | .slnil neg x,.binOp op t x' (.const (.slice none 0 0)) _=>decide (op=if neg then .neq else .eql) && aJ x x' && iM P t gh
 | .isnil neg x,.binOp op t x' (.const .nilIface) _=>decide (op=if neg then .neq else .eql) && aJ x x' && P4 P t
 | .mfunc (.func f) cap,.makeFunc (.func g) first cap'=>f == g && first.isEmpty && sf cap cap'.toList
 | .mmap,.makeMap _ none=>true
 | .mslice esz zero l,.makeSlice t l' c'=>aJ l l' && aJ l c' && mH P t esz && qk P t zero
 | .mslp esz zero l,.makeSlice t l' c'=>aJ l l' && aJ l c' && mH P t esz && qk P t zero
 | .slice esz x lo hi mx,.slice t x' lo' hi' mx'=>aJ x x' && ww lo lo' && ww hi hi' && ww mx mx' && P7 P t esz
 | .faddr off x,.fieldAddr t x' k=>aJ x x' && I8 P t k off
 | .fld off n x,.field t x' k=>aJ x x' && P5 P t k off n
 | .iaddr arr esz x y,.indexAddr t x' y'=>aJ x x' && aJ y y' && P6 P t arr esz
 | .idx x y,.index t x' y'=>aJ x x' && aJ y y' && iM P t za
 | .lookup str zero m k ok,.lookup t m' k' ok'=>ok == ok' && aJ m m' && aJ k k' && F7 P t str && Aw P t zero
 | .mupd str m k v,.mapUpdate t m' k' v'=>aJ m m' && aJ k k' && aJ v v' && F7 P t str
 | .lookup2 kd zero m k ok,.lookup t m' k' ok'=>ok == ok' && aJ m m' && aJ k k' && EG P t kd && Aw P t zero
 | .mupd2 kd m k v,.mapUpdate t m' k' v'=>aJ m m' && aJ k k' && aJ v v' && EG P t kd
 | .tas t zero ok x,.typeAssert x' _ t' ok'=>t == t' && ok == ok' && aJ x x' && !Au P t && I7 P t zero
 | .extr i x,.extract y j=>i == j && aJ x y
 | .panic x,.panic y=>aJ x y
 | x,.call c=>Ax P x c
 | _,_=>false
def eO (P : Program) (f : FuncId) : Prop := ∃ fn,P.funcs[f]? = some fn ∧ fn.body.isSome = true ∧ (fn.name == "runtime.NumGoroutine") = false
theorem g9 {P:Program} {t:TypeId} {n:Nat} (h:xD P t n=true):∃ i,P.info? t=some i∧i.size=n:=by
 unfold xD at h
 split at h
 ·rename_i i hi; exact ⟨i,hi,by simpa using h⟩
 ·cases h
theorem cB {P:Program} {t:TypeId} {f:TypeDesc→Bool} (h:iM P t f=true):∃ d,P.underlying t=some d∧f d=true:=by
 unfold iM at h
 split at h
 ·rename_i d hd; exact ⟨d,hd,h⟩
 ·cases h
theorem d8 {P:Program} {t:TypeId} {esz:Nat} (h:mH P t esz=true):∃ e i z,P.underlying t=some (.slice e)∧P.info? e=some i∧i.size=esz∧0<esz∧i.bytes≤32768∧i.zero=some z∧z.cells.size=esz∧z.cells.toList.all Value.oneCell'=true:=by
 unfold mH at h
 split at h
 ·rename_i e he
  split at h
  ·rename_i i hi
   simp only [Bool.and_eq_true,beq_iff_eq,decide_eq_true_eq] at h
   obtain ⟨⟨⟨h1,h2⟩,h3⟩,h4⟩:=h
   split at h4
   ·rename_i z hz
    simp only [Bool.and_eq_true,beq_iff_eq] at h4
    exact ⟨e,i,z,he,hi,h1,h2,h3,hz,h4.1,h4.2⟩
   ·cases h4
  ·cases h
 ·cases h
theorem kS {P:Program} {t e:TypeId} {i:TypeInfo} {z:Value} {zero:List PV} (h:qk P t zero=true) (he:P.underlying t=some (.slice e)) (hi:P.info? e=some i) (hz:i.zero=some z):tN zero z.cells.toList=true:=by
 unfold qk at h
 simpa [he,hi,hz] using h
theorem wB {P:Program} {t:TypeId} (h:Au P t=false):∃ d,P.underlying t=some d∧∀ ms,d≠.interface ms:=by
 unfold Au at h
 split at h
 ·cases h
 ·rename_i d hn hd; exact ⟨d,hd,fun ms e=>by subst e; exact hn ms rfl⟩
 ·cases h
theorem vL {P:Program} {t:TypeId} {str:Bool} (h:F7 P t str=true):∃ kt et d,P.underlying t=some (.map kt et)∧P.underlying kt=some d∧js str d:=by
 unfold F7 at h
 split at h
 ·rename_i kt et ht
  split at h
  ·rename_i hk; exact ⟨kt,et,_,ht,hk,by simp [js,h]⟩
  ·rename_i k hk; exact ⟨kt,et,_,ht,hk,by simp at h; simp [js,h]⟩
  ·cases h
 ·cases h
theorem zc {P:Program} {t:TypeId} {kd:List Bool} (h:EG P t kd=true):∃ kt et,P.underlying t=some (.map kt et)∧CL P kd kt:=by
 unfold EG at h
 split at h
 ·rename_i kt et ht
  split at h
  ·rename_i fs hk
   simp only [Bool.and_eq_true,Bool.not_eq_true'] at h
   exact ⟨kt,et,ht,fs,hk,h.1,h.2⟩
  ·cases h
 ·cases h
theorem vM {P:Program} {t:TypeId} {zero:PV} (h:I7 P t zero=true):∃ i z,P.info? t=some i∧i.zero=some z∧eqC zero z=true:=by
 unfold I7 at h
 split at h
 ·rename_i i hi
  split at h
  ·rename_i z hz; exact ⟨i,z,hi,hz,h⟩
  ·cases h
 ·cases h
theorem mg:∀ {l:List Opd} {l':List Operand},sf l l'=true→l.length=l'.length∧∀ p∈l.zip l',aJ p.1 p.2=true
 | [],[],_=>⟨rfl,by simp⟩
 | [],_::_,h=>by simp [sf] at h
 | _::_,[],h=>by simp [sf] at h
 | x::r,y::s,h=>by
  simp only [sf,Bool.and_eq_true] at h
  obtain ⟨h1,h2⟩:=mg h.2
  exact ⟨by simp [h1],fun p hp=>by
   simp only [List.zip_cons_cons,List.mem_cons] at hp
   rcases hp with rfl|hp
   ·exact h.1
   ·exact h2 p hp⟩
section
variable {P:Program} {bars:List Nat} {κ:Kn} {σ:Sto} {w:World} {env:Env} {a:Act} {o:Oper} {r:OpR}
theorem j7 {f:FuncId} (h:eO P f) (xs:Array Value):(callFunc f xs).run P w=.ok (.enter f xs) w:=by
 obtain ⟨fn,h1,h2,h3⟩:=h
 have h2':fn.body≠none:=by intro hb; rw [hb] at h2; cases h2
 have h3' : fn.name ≠ "runtime.NumGoroutine" := by simpa using h3
 simp [callFunc,h1,h2',h3']
theorem AZ {t:TypeId} {n:FuncId}:∀ {tab:List (TypeId×FuncId)},tab.lookup t=some n→(t,n)∈tab
 | [],h=>by cases h
 | (u,m)::r,h=>by
  simp only [List.lookup] at h
  split at h
  ·rename_i hb; cases h; simp only [beq_iff_eq] at hb; subst hb; simp
  ·exact List.mem_cons_of_mem _ (AZ h)
theorem pI (he:ENV κ σ.length env a.tmps) {n:FuncId} (hn:n<YB) {args:List Opd} {c:Call} (hcl:c.callee=.value (.func n)) (hl:sf args c.args.toList=true)
  (ho:o.op=.call c) (hr:(evs env args).bind (fun vs=>kR env σ (.f n) vs)=some r) (hcall:∀ f xs σ',r=.call f xs σ'→f<YB→eO P f):OpOK bars κ σ w ((execOp a.eval o).run P w) r:=by
 simp only [Option.bind_eq_some_iff,kR,Option.some.injEq] at hr
 obtain ⟨vs,hvs,rfl⟩:=hr
 obtain ⟨h1,h2⟩:=mg hl
 obtain ⟨h3,h4⟩:=oQ he h1 h2 hvs
 refine ⟨rfl,c.args.map a.eval,?_,by simpa using h3,h4⟩
 refine .inl ⟨hn,?_⟩
 have:=j7 (w:=w) (hcall n vs σ rfl hn) (c.args.map a.eval)
 simp [execOp,ho,resolve,hcl,Deferred.ofValue,Act.eval,invoke]
 simpa using this
theorem sO (he:ENV κ σ.length env a.tmps) {x:Opd} {y:Operand} {args:List Opd} {c:Call} (hcl:c.callee=.value y) (hx:aJ x y=true) (hl:sf args c.args.toList=true)
  (ho:o.op=.call c) (hr:(evs env args).bind (fun vs=>kR env σ (.v x) vs)=some r) (hcall:∀ f xs σ',r=.call f xs σ'→f<YB→eO P f):OpOK bars κ σ w ((execOp a.eval o).run P w) r:=by
 simp only [Option.bind_eq_some_iff,kR] at hr
 obtain ⟨vs,hvs,hr⟩:=hr
 obtain ⟨h1,h2⟩:=mg hl
 obtain ⟨h3,h4⟩:=oQ he h1 h2 hvs
 split at hr
 ·rename_i n cap hv
  split at hr
  case isFalse=>cases hr
  rename_i hn
  cases hr
  obtain ⟨⟨us,h5,h6⟩,h7⟩:=aA he hx hv
  refine ⟨rfl,c.args.map a.eval++us,.inl ⟨hn,?_⟩,?_,?_⟩
  ·have:=j7 (w:=w) (hcall n _ σ rfl hn) (c.args.map a.eval++us)
   simp [execOp,ho,resolve,hcl,Deferred.ofValue,h5,invoke]
   simpa using this
  ·simpa using RelL.append h3 h6
  ·simp only [below] at h7
   simp [cE,h4,h7]
 ·rename_i l hv
  cases hr
  obtain ⟨⟨b,h5,h6,h7⟩,h8⟩:=aA he hx hv
  refine ⟨rfl,c.args.map a.eval,.inr ⟨l,b,rfl,by simpa [below] using h8,h7,fun r hl hs=>?_⟩,by simpa using h3,h4⟩
  have:=run_yield (P:=P) (args:=c.args.map a.eval) hl hs
  simp [execOp,ho,resolve,hcl,Deferred.ofValue,h5,invoke]
  simpa using this
 ·rename_i n fs hv
  split at hr
  case isFalse=>cases hr
  rename_i hn
  cases hr
  obtain ⟨⟨us,h5,h6⟩,h7⟩:=aA he hx hv
  refine ⟨rfl,us++c.args.map a.eval,.inl ⟨hn,?_⟩,?_,?_⟩
  ·have:=j7 (w:=w) (hcall n _ σ rfl hn) (us++c.args.map a.eval)
   simp [execOp,ho,resolve,hcl,Deferred.ofValue,h5,invoke]
   simpa using this
  ·simpa using RelL.append h6 h3
  ·simp only [below] at h7
   simp [cE,h4,h7]
 ·cases hr
theorem HT {t:TypeId} {v:Value} {name:String} {f:FuncId} (h:mOK P t name f=true) (fuel:Nat):(method (fuel+1) t v name).run P w=.ok (f,v) w:=by
 unfold mOK at h
 split at h
 case h_2=>cases h
 rename_i i hi
 split at h
 case h_2=>cases h
 rename_i m hm
 simp only [Bool.and_eq_true] at h
 obtain ⟨hp,h⟩:=h
 have hp':m.path=#[]:=by simpa using hp
 split at h
 case h_2=>cases h
 rename_i g pr hmf
 simp only [Bool.and_eq_true,beq_iff_eq] at h
 obtain ⟨rfl,h⟩:=h
 unfold method
 cases hu:P.underlying t with
 | none=>rw [hu] at h; cases h
 | some d =>
  rw [hu] at h
  cases d<;>simp only [Bool.not_eq_true'] at h<;>subst h<;>simp [typeInfo,hi,hm,hp',follow,hmf,receiverAt,underlying,hu,Place.get]
theorem EH (he:ENV κ σ.length env a.tmps) {x:Opd} {tab:List (TypeId×FuncId)} {y:Operand} {name:String} {args:List Opd} {c:Call} (hcl:c.callee=.invoke y name) (hx:aJ x y=true) (hl:sf args c.args.toList=true) (htab:∀ p∈tab,mOK P p.1 name p.2=true)
  (ho:o.op=.call c) (hr:(evs env args).bind (fun vs=>kR env σ (.m x tab) vs)=some r) (hcall:∀ f xs σ',r=.call f xs σ'→f<YB→eO P f):OpOK bars κ σ w ((execOp a.eval o).run P w) r:=by
 simp only [Option.bind_eq_some_iff,kR] at hr
 obtain ⟨vs,hvs,hr⟩:=hr
 obtain ⟨h1,h2⟩:=mg hl
 obtain ⟨h3,h4⟩:=oQ he h1 h2 hvs
 split at hr
 case h_2=>cases hr
 rename_i t v hv
 simp only [Option.bind_eq_some_iff] at hr
 obtain ⟨n,hn,hr⟩:=hr
 split at hr
 case isFalse=>cases hr
 rename_i hlt
 cases hr
 obtain ⟨⟨u,h5,h6⟩,h7⟩:=aA he hx hv
 have hm:=htab (t,n) (AZ hn)
 refine ⟨rfl,#[u]++c.args.map a.eval,.inl ⟨hlt,?_⟩,?_,?_⟩
 ·have h8:=j7 (w:=w) (hcall n _ σ rfl hlt) (#[u]++c.args.map a.eval)
  have h9:=HT (w:=w) (v:=u) hm (P.types.size+Made.depth - 1)
  have h10:P.types.size+Made.depth - 1+1=P.types.size+Made.depth:=by simp [Made.depth]
  rw [h10] at h9
  have h11:(#[Value.iface t u]++c.args.map a.eval).extract 1 (#[Value.iface t u]++c.args.map a.eval).size=c.args.map a.eval:=by
   apply Array.ext'
   simp
   exact List.take_of_length_le (by simp)
  have h12:(#[Value.iface t u]++c.args.map a.eval)[0]? = some (.iface t u):=by rw [Array.getElem?_append_left (by simp)]; rfl
  have h13:(resolve a.eval c o.type)=pure { target:=.fn (.method name) #[],args:=#[a.eval y]++c.args.map a.eval }:=by
   unfold resolve
   rw [hcl]
  have h14:(callMethod (.iface t u) name (c.args.map a.eval)).run P w=.ok (.enter n (#[u]++c.args.map a.eval)) w:=by
   simp only [callMethod,Sem.run_bind,run_program,Result.andThen,h9,h8]
  simp only [execOp,ho,Sem.run_bind,h13,Sem.run_pure,Result.andThen,invoke,h5,h12,h11]
  exact h14
 ·rw [Array.toList_append]
  exact ⟨u,_,rfl,h6,by simpa using h3⟩
 ·simp only [below] at h7
  simp [below.belowAll,h4,h7]
theorem qW {α:Type} {x:Array α} {u:α} (h:x.toList=[u]):x=#[u]:=Array.ext' (by simpa using h)
theorem b8 {α:Type} {x:Array α} {u v:α} (h:x.toList=[u,v]):x=#[u,v]:=Array.ext' (by simpa using h)
theorem oR {x:IOp} (hc:zb P x o.op=true) (hi:INV bars κ σ w) (he:ENV κ σ.length env a.tmps) (hr:opE bars env σ x=some r) (hcall:∀ f xs σ',r=.call f xs σ'→f<YB→eO P f):OpOK bars κ σ w ((execOp a.eval o).run P w) r:=by
 generalize hop:o.op=oo at hc
 unfold zb at hc
 split at hc
 ·exact DF hi he hc (.inl hop) hr
 ·exact DF hi he hc (.inr hop) hr
 ·simp only [Bool.and_eq_true] at hc
  exact HA hi he hc.1.1 hc.1.2 hc.2 hop hr
 ·unfold EF at hc
  split at hc
  ·rename_i i hti
   split at hc
   ·rename_i z hz
    simp only [Bool.and_eq_true] at hc
    exact FM hi hti hz hc.1 hc.2 hop hr
   ·cases hc
  ·cases hc
 ·rename_i T E t
  simp only [Bool.and_eq_true,beq_iff_eq] at hc
  obtain ⟨hT,hc⟩:=hc
  subst hT
  unfold EF at hc
  split at hc
  ·rename_i i hti
   split at hc
   ·rename_i z hz
    simp only [Bool.and_eq_true] at hc
    exact EE hi hti hz hc.1 hc.2 hop hr
   ·cases hc
  ·cases hc
 ·exact JT hi he hc hop hr
 ·split at hc
  ·rename_i z pl hpl
   simp only [Bool.and_eq_true] at hc
   exact FY hi he hpl hc.1.1 hc.1.2 hc.2 hop hr
  ·cases hc
 ·simp only [Bool.and_eq_true,beq_iff_eq,decide_eq_true_eq,Bool.or_eq_true,bne_iff_ne] at hc
  obtain ⟨⟨⟨⟨⟨rfl,h1⟩,h2⟩,h3⟩,h4⟩,h5⟩:=hc
  obtain ⟨e,i,z,g1,g2,g3,g4,g5,g6,g7,g8⟩:=d8 h2
  exact Ez hi he h1 g1 g2 g3 g6 g7 (kS h3 g1 g2 g6) g8 h4 g4 (fun h0=>by rcases h5 with h5|h5; exact absurd h0 h5; exact List.isEmpty_iff.1 h5) hop hr
 ·simp only [Bool.and_eq_true,beq_iff_eq,decide_eq_true_eq,bne_iff_ne] at hc
  obtain ⟨⟨⟨⟨⟨rfl,h1⟩,h2⟩,h3⟩,h4⟩,h5⟩:=hc
  obtain ⟨e,i,z,g1,g2,g3,g4,g5,g6,g7,g8⟩:=d8 h2
  exact HN hi he h1 g1 g2 g3 g6 g7 (kS h3 g1 g2 g6) g8 h4 g4 h5 hop hr
 ·simp only [Bool.and_eq_true] at hc
  obtain ⟨i,h1,h2⟩:=g9 hc.1.2
  exact AN hi he hc.1.1 h1 h2 hc.2 hop hr
 ·simp only [Bool.and_eq_true] at hc
  obtain ⟨i,h1,h2⟩:=g9 hc.1.2
  exact AN hi he hc.1.1 h1 h2 hc.2 hop (HQ hr)
 ·simp only [Bool.and_eq_true] at hc
  obtain ⟨i,h1,h2⟩:=g9 hc.2
  exact FN hi he hc.1.1 hc.1.2 h1 h2 hop hr
 ·simp only [Bool.and_eq_true] at hc
  obtain ⟨i,h1,h2⟩:=g9 hc.2
  exact Eu hi he hc.1.1 hc.1.2 h1 h2 hop hr
 ·simp only [Bool.and_eq_true] at hc
  obtain ⟨i,h1,h2⟩:=g9 hc.2
  exact Ew hi he hc.1.1 hc.1.2 h1 h2 hop hr
 ·exact HD hi he hc hop hr
 ·simp only [Bool.and_eq_true,beq_iff_eq] at hc
  obtain ⟨⟨rfl,h1⟩,h2⟩:=hc
  exact JS hi he h1 h2 hop hr
 ·simp only [Bool.and_eq_true,beq_iff_eq,Bool.not_eq_true'] at hc
  obtain ⟨⟨⟨⟨rfl,h1⟩,h2⟩,h3⟩,h4⟩:=hc
  exact J2 hi he h1 h2 (F8 h3) h4 hop hr
 ·simp only [Bool.and_eq_true,beq_iff_eq] at hc
  obtain ⟨⟨⟨rfl,h1⟩,h2⟩,h3⟩:=hc
  obtain ⟨d,h4,h5⟩:=cB h3
  have hb:d=.bool:=by cases d<;>simp [Lz] at h5 ⊢
  subst hb
  exact JV hi he h1 h2 h4 hop hr
 ·exact JQ hi he hc hop hr
 ·exact JR hi he hc hop hr
 ·simp only [Bool.and_eq_true] at hc
  obtain ⟨d,h1,-⟩:=cB hc.1.2
  obtain ⟨d',h2,h3⟩:=cB hc.2
  cases d'<;>simp [P8] at h3
  subst h3
  exact HE hi he hc.1.1 h1 h2 hop hr
 ·simp only [Bool.and_eq_true] at hc
  obtain ⟨d,h1,-⟩:=cB hc.1.2
  obtain ⟨d',h2,h3⟩:=cB hc.2
  cases d'<;>simp [za] at h3
  exact HF hi he hc.1.1 h1 h2 hop hr
 ·simp only [Bool.and_eq_true,beq_iff_eq,Bool.not_eq_true'] at hc
  obtain ⟨⟨rfl,h1⟩,h2⟩:=hc
  obtain ⟨d,h3,h4⟩:=wB h2
  exact Ey hi he h1 h3 h4 hop hr
 ·simp only [Bool.and_eq_true,beq_iff_eq] at hc
  obtain ⟨⟨rfl,h1⟩,h2⟩:=hc
  obtain ⟨h3,h4⟩:=mg h2
  have:=Array.isEmpty_iff.1 h1
  subst this
  exact JW hi he h3 h4 hop hr
 ·simp only [Bool.and_eq_true,decide_eq_true_eq] at hc
  obtain ⟨⟨rfl,h1⟩,h2⟩:=hc
  obtain ⟨d,h3,h4⟩:=cB h2
  cases d<;>simp [gh] at h4
  exact FU hi he h1 h3 hop hr
 ·simp only [Bool.and_eq_true,decide_eq_true_eq] at hc
  obtain ⟨⟨rfl,h1⟩,h2⟩:=hc
  unfold P4 at h2
  split at h2
  ·rename_i ms hms
   exact FT hi he h1 hms hop hr
  ·cases h2
 ·simp only [Bool.and_eq_true,beq_iff_eq] at hc
  obtain ⟨⟨rfl,h1⟩,h2⟩:=hc
  obtain ⟨h3,h4⟩:=mg h2
  have:=Array.isEmpty_iff.1 h1
  subst this
  exact FP hi he h3 h4 hop hr
 ·exact HK hi hop hr
 ·simp only [Bool.and_eq_true] at hc
  obtain ⟨⟨⟨h1,h2⟩,h3⟩,h4⟩:=hc
  obtain ⟨e,i,z,g1,g2,g3,g4,g5,g6,g7,g8⟩:=d8 h3
  exact EA hi he h1 h2 g1 g2 g3 g6 g7 (kS h4 g1 g2 g6) g8 g5 g4 hop hr
 ·simp only [Bool.and_eq_true] at hc
  obtain ⟨⟨⟨h1,h2⟩,h3⟩,h4⟩:=hc
  obtain ⟨e,i,z,g1,g2,g3,g4,g5,g6,g7,g8⟩:=d8 h3
  exact HJ hi he h1 h2 g1 g2 g3 g6 g7 (kS h4 g1 g2 g6) g8 g5 g4 hop hr
 ·simp only [Bool.and_eq_true] at hc
  obtain ⟨⟨⟨⟨h1,h2⟩,h3⟩,h4⟩,h5⟩:=hc
  refine FX hi he h1 h2 h3 h4 ?_ hop hr
  unfold P7 at h5
  split at h5
  ·rename_i ht
   simp only [beq_iff_eq] at h5
   rw [if_pos h5]; exact ht
  ·rename_i e ht
   simp only [Bool.and_eq_true,bne_iff_ne] at h5
   obtain ⟨i,g1,g2⟩:=g9 h5.1
   rw [if_neg h5.2]; exact ⟨e,i,ht,g1,g2⟩
  ·cases h5
 ·simp only [Bool.and_eq_true] at hc
  obtain ⟨h1,h2⟩:=hc
  unfold I8 at h2
  split at h2
  ·rename_i fs ht
   split at h2
   ·rename_i f hf
    simp only [Bool.and_eq_true,beq_iff_eq] at h2
    obtain ⟨h3,h4⟩:=h2
    split at h4
    ·rename_i i hfi
     exact FO hi he h1 ht hf hfi (by simpa using h4) h3 hop hr
    ·cases h4
   ·cases h2
  ·cases h2
 ·simp only [Bool.and_eq_true] at hc
  obtain ⟨h1,h2⟩:=hc
  unfold P5 at h2
  split at h2
  ·rename_i fs ht
   split at h2
   ·rename_i f hf
    simp only [Bool.and_eq_true,beq_iff_eq] at h2
    obtain ⟨⟨h3,h4⟩,h5⟩:=h2
    obtain ⟨i,g1,g2⟩:=g9 h4
    exact JY hi he h1 ht hf g1 g2 h5 h3 hop hr
   ·cases h2
  ·cases h2
 ·simp only [Bool.and_eq_true] at hc
  obtain ⟨⟨h1,h2⟩,h3⟩:=hc
  unfold P6 at h3
  split at h3
  ·rename_i e ht
   obtain ⟨i,g1,g2⟩:=g9 h3
   exact y5 hi he h1 h2 (by simpa using ht) g1 g2 hop hr
  ·rename_i n e m ht
   simp only [Bool.and_eq_true,beq_iff_eq] at h3
   obtain ⟨rfl,h3⟩:=h3
   obtain ⟨i,g1,g2⟩:=g9 h3
   exact y5 hi he h1 h2 (by simpa using ht) g1 g2 hop hr
  ·cases h3
 ·simp only [Bool.and_eq_true] at hc
  obtain ⟨⟨h1,h2⟩,h3⟩:=hc
  obtain ⟨d,h4,h5⟩:=cB h3
  have hb:d=.string:=by cases d<;>simp [za] at h5 ⊢
  subst hb
  exact JZ hi he h1 h2 h4 hop hr
 ·simp only [Bool.and_eq_true,beq_iff_eq] at hc
  obtain ⟨⟨⟨⟨rfl,h1⟩,h2⟩,h3⟩,h4⟩:=hc
  obtain ⟨kt,et,d,g1,g2,g3⟩:=vL h3
  unfold Aw at h4
  rw [g1] at h4
  obtain ⟨i,z,g4,g5,g6⟩:=vM h4
  exact EB hi he h1 h2 g1 g2 g3 g4 g5 g6 hop hr
 ·simp only [Bool.and_eq_true] at hc
  obtain ⟨⟨⟨h1,h2⟩,h3⟩,h4⟩:=hc
  obtain ⟨kt,et,d,g1,g2,g3⟩:=vL h4
  exact HL hi he h1 h2 h3 g1 g2 g3 hop hr
 ·simp only [Bool.and_eq_true,beq_iff_eq] at hc
  obtain ⟨⟨⟨⟨rfl,h1⟩,h2⟩,h3⟩,h4⟩:=hc
  obtain ⟨kt,et,g1,g2⟩:=zc h3
  unfold Aw at h4
  rw [g1] at h4
  obtain ⟨i,z,g4,g5,g6⟩:=vM h4
  exact CN hi he h1 h2 g1 g2 g4 g5 g6 hop hr
 ·simp only [Bool.and_eq_true] at hc
  obtain ⟨⟨⟨h1,h2⟩,h3⟩,h4⟩:=hc
  obtain ⟨kt,et,g1,g2⟩:=zc h4
  exact F4 hi he h1 h2 h3 g1 g2 hop hr
 ·simp only [Bool.and_eq_true,beq_iff_eq,Bool.not_eq_true'] at hc
  obtain ⟨⟨⟨⟨rfl,rfl⟩,h1⟩,h2⟩,h3⟩:=hc
  obtain ⟨d,g1,g2⟩:=wB h2
  obtain ⟨i,z,g4,g5,g6⟩:=vM h3
  exact J1 hi he h1 g1 g2 g4 g5 g6 hop hr
 ·simp only [Bool.and_eq_true,beq_iff_eq] at hc
  obtain ⟨rfl,h1⟩:=hc
  exact HC hi he h1 hop hr
 ·exact F2 hi he hc hop hr
 ·rename_i c
  unfold Ax at hc
  split at hc
  ·rename_i str x x' t h1 h2 h3
   simp only [Bool.and_eq_true] at hc
   obtain ⟨d,g1,g2⟩:=cB hc.2
   obtain ⟨cc,ca,ct⟩:=c
   simp only at h1 h2 h3
   subst h1
   rw [qW h2,qW h3] at hop
   refine JU hi he hc.1 g1 ?_ hop hr
   cases str
   ·simp at g2 ⊢
    cases d<;>simp [gh] at g2 ⊢
   ·simp at g2 ⊢
    cases d<;>simp [za] at g2 ⊢
  ·rename_i mx x y b x' y' h1 h2
   simp only [Bool.and_eq_true] at hc
   obtain ⟨cc,ca,ct⟩:=c
   simp only at h1 h2
   subst h1
   rw [b8 h2] at hop
   have hb:b=if mx then .max else .min:=by
    have:=hc.1.1
    cases b<;>cases mx<;>simp at this ⊢
   subst hb
   exact Lv hi he hc.1.2 hc.2 hop hr
  ·rename_i esz x y x' y' t tx h1 h2 h3
   simp only [Bool.and_eq_true] at hc
   obtain ⟨⟨⟨g1,g2⟩,g3⟩,g4⟩:=hc
   obtain ⟨cc,ca,ct⟩:=c
   simp only at h1 h2 h3
   subst h1
   rw [b8 h2,b8 h3] at hop
   obtain ⟨e,i,z,k1,k2,k3,k4,k5,k6,k7,k8⟩:=d8 g3
   obtain ⟨d,k9,k10⟩:=cB g4
   exact qa hi he g1 g2 k1 (by cases d<;>simp [gh] at k10; exact ⟨_,k9⟩) k2 k3 k6 k7 k8 k5 k4 hop hr
  ·rename_i esz x y x' y' t tx h1 h2 h3
   simp only [Bool.and_eq_true] at hc
   obtain ⟨⟨⟨g1,g2⟩,g3⟩,g4⟩:=hc
   obtain ⟨cc,ca,ct⟩:=c
   simp only at h1 h2 h3
   subst h1
   rw [b8 h2,b8 h3] at hop
   obtain ⟨e,i,z,k1,k2,k3,k4,k5,k6,k7,k8⟩:=d8 g3
   obtain ⟨d,k9,k10⟩:=cB g4
   exact HI hi he g1 g2 k1 (by cases d<;>simp [gh] at k10; exact ⟨_,k9⟩) k2 k3 k6 k7 k8 k5 k4 hop hr
  ·rename_i esz x y x' y' t tx h1 h2 h3
   simp only [Bool.and_eq_true] at hc
   obtain ⟨⟨⟨g1,g2⟩,g3⟩,g4⟩:=hc
   obtain ⟨cc,ca,ct⟩:=c
   simp only at h1 h2 h3
   subst h1
   rw [b8 h2,b8 h3] at hop
   obtain ⟨e,i,z,k1,k2,k3,k4,k5,k6,k7,k8⟩:=d8 g3
   obtain ⟨d,k9,k10⟩:=cB g4
   exact HP hi he g1 g2 k1 (by cases d<;>simp [gh] at k10; exact ⟨_,k9⟩) k2 k3 k6 k7 k8 k5 k4 hop hr
  ·rename_i x y x' y' t tx h1 h2 h3
   simp only [Bool.and_eq_true] at hc
   obtain ⟨⟨⟨g1,g2⟩,g3⟩,g4⟩:=hc
   obtain ⟨cc,ca,ct⟩:=c
   simp only at h1 h2 h3
   subst h1
   rw [b8 h2,b8 h3] at hop
   obtain ⟨e,i,z,k1,k2,k3,k4,k5,k6,k7,k8⟩:=d8 g3
   obtain ⟨d,k9,k10⟩:=cB g4
   exact HG hi he g1 g2 k1 (by cases d<;>simp [za] at k10; exact k9) k2 k3 k6 k7 k8 k5 hop hr
  ·rename_i esz x y x' y' t tx h1 h2 h3
   simp only [Bool.and_eq_true] at hc
   obtain ⟨⟨⟨g1,g2⟩,g3⟩,g4⟩:=hc
   obtain ⟨cc,ca,ct⟩:=c
   simp only at h1 h2 h3
   subst h1
   rw [b8 h2,b8 h3] at hop
   obtain ⟨e,i,z,k1,k2,k3,k4,k5,k6,k7,k8⟩:=d8 g3
   obtain ⟨d,k9,k10⟩:=cB g4
   exact HR hi he g1 g2 k1 (by cases d<;>simp [gh] at k10; exact ⟨_,k9⟩) k2 k3 k6 k7 k8 k5 k4 hop hr
  ·rename_i esz x y x' y' t tx h1 h2 h3
   simp only [Bool.and_eq_true] at hc
   obtain ⟨⟨⟨g1,g2⟩,g3⟩,g4⟩:=hc
   obtain ⟨cc,ca,ct⟩:=c
   simp only at h1 h2 h3
   subst h1
   rw [b8 h2,b8 h3] at hop
   obtain ⟨e,i,z,k1,k2,k3,k4,k5,k6,k7,k8⟩:=d8 g3
   obtain ⟨d,k9,k10⟩:=cB g4
   exact qa hi he g1 g2 k1 (by cases d<;>simp [gh] at k10; exact ⟨_,k9⟩) k2 k3 k6 k7 k8 k5 k4 hop (Lx hr)
  ·rename_i av esz x y x' y' t tx h1 h2 h3
   simp only [Bool.and_eq_true] at hc
   obtain ⟨⟨⟨g1,g2⟩,g3⟩,g4⟩:=hc
   obtain ⟨cc,ca,ct⟩:=c
   simp only at h1 h2 h3
   subst h1
   rw [b8 h2,b8 h3] at hop
   obtain ⟨e,i,z,k1,k2,k3,k4,k5,k6,k7,k8⟩:=d8 g3
   obtain ⟨d,k9,k10⟩:=cB g4
   exact qa hi he g1 g2 k1 (by cases d<;>simp [gh] at k10; exact ⟨_,k9⟩) k2 k3 k6 k7 k8 k5 k4 hop (Ly hr)
  ·rename_i x x' t h1 h2 h3
   simp only [Bool.and_eq_true] at hc
   obtain ⟨d,g1,g2⟩:=cB hc.2
   obtain ⟨cc,ca,ct⟩:=c
   simp only at h1 h2 h3
   subst h1
   rw [qW h2,qW h3] at hop
   exact J3 hi he hc.1 (by cases d<;>simp [gh] at g2; exact ⟨_,g1⟩) hop hr
  ·rename_i esz zero x l x' l' t tx h1 h2 h3
   simp only [Bool.and_eq_true] at hc
   obtain ⟨⟨⟨⟨g1,g2⟩,g3⟩,g4⟩,g5⟩:=hc
   obtain ⟨cc,ca,ct⟩:=c
   simp only at h1 h2 h3
   subst h1
   rw [b8 h2,b8 h3] at hop
   obtain ⟨e,i,z,k1,k2,k3,k4,k5,k6,k7,k8⟩:=d8 g3
   obtain ⟨d,k9,k10⟩:=cB g5
   exact HO hi he g1 g2 k1 (by cases d<;>simp [LA] at k10; exact ⟨_,k9⟩) k2 k3 k6 k7 (kS g4 k1 k2 k6) k8 k5 k4 hop hr
  ·rename_i str m k m' k' t tk h1 h2 h3
   simp only [Bool.and_eq_true] at hc
   obtain ⟨⟨g1,g2⟩,g3⟩:=hc
   obtain ⟨cc,ca,ct⟩:=c
   simp only at h1 h2 h3
   subst h1
   rw [b8 h2,b8 h3] at hop
   obtain ⟨kt,et,d,k1,k2,k3⟩:=vL g3
   exact J0 hi he g1 g2 k1 k2 k3 hop hr
  ·rename_i n args g h1
   simp only [Bool.and_eq_true,beq_iff_eq,decide_eq_true_eq] at hc
   obtain ⟨⟨rfl,hn⟩,h2⟩:=hc
   exact pI he hn h1 h2 hop hr hcall
  ·rename_i x args y h1
   simp only [Bool.and_eq_true] at hc
   exact sO he h1 hc.1 hc.2 hop hr hcall
  ·rename_i x tab args y name h1
   simp only [Bool.and_eq_true,List.all_eq_true] at hc
   exact EH he h1 hc.1.1 hc.1.2 hc.2 hop hr hcall
  ·rename_i n args g h1
   simp only [Bool.and_eq_true,beq_iff_eq,decide_eq_true_eq] at hc
   obtain ⟨⟨rfl,hn⟩,h2⟩:=hc
   exact pI he hn h1 h2 hop hr hcall
  ·rename_i x args y h1
   simp only [Bool.and_eq_true] at hc
   exact sO he h1 hc.1 hc.2 hop hr hcall
  ·rename_i n args g h1
   simp only [Bool.and_eq_true,beq_iff_eq,decide_eq_true_eq] at hc
   obtain ⟨⟨rfl,hn⟩,h2⟩:=hc
   exact pI he hn h1 h2 hop hr hcall
  ·rename_i av n args g h1
   simp only [Bool.and_eq_true,beq_iff_eq,decide_eq_true_eq] at hc
   obtain ⟨⟨rfl,hn⟩,h2⟩:=hc
   exact pI he hn h1 h2 hop hr hcall
  ·rename_i av x args y h1
   simp only [Bool.and_eq_true] at hc
   exact sO he h1 hc.1 hc.2 hop hr hcall
  ·cases hc
 ·cases hc
end
end Go.Ev
