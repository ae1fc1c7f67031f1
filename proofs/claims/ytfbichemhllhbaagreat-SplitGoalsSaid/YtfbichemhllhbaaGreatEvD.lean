/- What the interpreter comes to, the machine does: code, functions, calls. -/
import Derived.Test.YtfbichemhllhbaaGreatEvC
import Derived.RangeFuncRecord
import Derived.RangeFuncIn
import Derived.RangeFuncLeaves
import Derived.RecoverIn
import GoSem.ClaimChange
import Derived.Shelf.Small.Strs
import Derived.Below
import Derived.Laws.AppendOwn
import Derived.Shelf.SlIterI.Nil
import Derived.Carry
set_option linter.unnecessarySimpa false
set_option linter.unusedVariables false
set_option linter.unusedSimpArgs false
set_option linter.unusedSectionVars false
namespace Go.Ev
variable [CodeRel]
theorem sj {κ:Kn} {σ:Sto} {n i b:Nat} (h:own κ (σ.take n) i=some b):own κ σ i=some b:=by
 cases hs:(σ.take n)[i]? with
 | none=>unfold own at h; rw [hs] at h; cases h
 | some ob =>
  rw [dx hs] at h
  rw [List.getElem?_take] at hs
  split at hs
  ·rw [dx hs]; exact h
  ·cases hs
theorem INV.take {bars:List Nat} {κ:Kn} {σ:Sto} {w:World} {n:Nat} (h:INV (n::bars) κ σ w) (hb:∀ m∈bars,m≤n):INV bars κ (σ.take n) w:=by
 obtain ⟨hn,hw⟩:=h.wfb n (by simp)
 have hl:(σ.take n).length=n:=by simp; omega
 have hget:∀ i ob,(σ.take n)[i]? = some ob→i<n∧σ[i]? = some ob:=by
  intro i ob hs
  rw [List.getElem?_take] at hs
  split at hs
  ·rename_i hi; exact ⟨hi,hs⟩
  ·cases hs
 refine ⟨fun i ob hs=>h.obs i ob (hget i ob hs).2,fun i j b hi hj=>h.inj i j b (sj hi) (sj hj),h.mem,h.cap,fun i ob hs=>?_,fun m hm=>?_⟩
 ·rw [hl]; exact hw i ob (hget i ob hs).1 (hget i ob hs).2
 ·refine ⟨by rw [hl]; exact hb m hm,fun i ob hi hs=>?_⟩
  exact (h.wfb m (by simp [hm])).2 i ob hi (hget i ob hs).2
theorem Kept.take {m n:Nat} {κ κ':Kn} {σ σ':Sto} {w w':World} (h:Kept m κ σ w κ' σ' w'):Kept m κ σ w κ' (σ'.take n) w' :=
 ⟨h.ext,h.size,h.keep,fun i b hi=>h.own i b (sj hi),h.M,h.os,h.output,h.tape⟩
theorem INV.drop {b:Nat} {bars:List Nat} {κ:Kn} {σ:Sto} {w:World} (h:INV (b::bars) κ σ w):INV bars κ σ w :=
 ⟨h.obs,h.inj,h.mem,h.cap,h.wf,fun n hn=>h.wfb n (by simp [hn])⟩
theorem INV.bar {bars:List Nat} {κ:Kn} {σ:Sto} {w:World} (h:INV bars κ σ w):INV (σ.length::bars) κ σ w :=
 ⟨h.obs,h.inj,h.mem,h.cap,h.wf,fun n hn=>by
  simp only [List.mem_cons] at hn
  rcases hn with rfl|hn
  ·exact ⟨Nat.le_refl _,fun i ob _ hs=>h.wf i ob hs⟩
  ·exact h.wfb n hn⟩
theorem INV.recell {bars:List Nat} {κ:Kn} {σ:Sto} {w:World} (h:INV bars κ σ w) {id k:Nat} {cs:List PV} {p q:PV} (hs:σ[id]? = some (.var cs)) (hk:cs[k]? = some p) (hr:∀ x c T,w.heap[(κ.ρ id).1]? = some (.cells c T (0,0))→c[k]? = some x→RelV κ p x→RelV κ q x) (hb:below σ.length q=true) (hbar:∀ n∈bars,id<n→below n q=true) :
  INV bars κ (σ.set id (.var (cs.set k q))) w:=by
 have hlt:id<σ.length:=(List.getElem?_eq_some_iff.1 hs).1
 have hrl:∀ (l:List PV) (x:List Value) (k:Nat),(∀ u,x[k]? = some u→RelV κ p u→RelV κ q u)→l[k]? = some p→RelL κ l x→RelL κ (l.set k q) x:=by
  intro l
  induction l with
  | nil=>intro x k _ hk; simp at hk
  | cons u r ih =>
   intro x k hr hk hl
   simp only [RelL] at hl
   obtain ⟨v,l',rfl,h1,h2⟩:=hl
   cases k with
   | zero=>simp at hk; subst hk; exact ⟨v,l',rfl,hr v rfl h1,h2⟩
   | succ k=>simp at hk; exact ⟨v,l',rfl,h1,ih l' k (fun u hu=>hr u (by simpa using hu)) hk h2⟩
 have hbl:∀ n,below.belowAll n cs=true→below n q=true→below.belowAll n (cs.set k q)=true:=by
  intro n h1 h2
  refine dg fun u hu=>?_
  rcases List.mem_or_eq_of_mem_set hu with h|h
  ·exact bR h1 h
  ·subst h; exact h2
 obtain ⟨g1,g2,⟨c,T,g3,g4,g5⟩,g6⟩:=h.obs id _ hs
 refine (INV.one h id (.var (cs.set k q)) (by omega) (by simp; omega) (dC hlt) (fun j hj=>cA hj) (Ext.refl _ _) (fun _ _ _=>rfl) (Nat.le_refl _) (fun _ _ _=>rfl) (fun _ _ _ _=>rfl)
  ⟨g1,g2,⟨c,T,g3,hrl _ _ _ (fun u hu=>hr u c T g3 (by simpa using hu)) hk g4,g5⟩,g6⟩ (fun b hb=>.inl (by rw [dx hs]; exact hb)) h.mem h.cap (hbl _ (by rw [List.length_set]; exact h.wf _ _ hs) (by simpa using hb)) (fun n hn hi=>hbl n ((h.wfb n hn).2 id _ hi hs) (hbar n hn hi)) rfl rfl rfl).1
theorem Jf {κ:Kn} {σ:Sto} {id:Nat} {cs cs':List PV} (hs:σ[id]? = some (.var cs)) (i:Nat):own κ (σ.set id (.var cs')) i=own κ σ i:=by
 by_cases h:i=id
 ·subst h
  rw [dx hs,dx (dC (List.getElem?_eq_some_iff.1 hs).1)]; rfl
 ·unfold own; rw [cA h]
theorem INV.commit {bars:List Nat} {κ:Kn} {σ:Sto} {w:World} (hi:INV bars κ σ w) {id j kk ver of len v k:Nat} {cs:List PV} {es:List (List PV)} {z:List PV} (hs:σ[id]? = some (.var cs)) (hcs:cs[kk]? = some (.rs j ver of len)) (hsj:σ[j]? = some (.pt v k es z))
  (hc:v=ver∧of=0∧len=es.length+1∧aj bars id (.ow j (v+1) (es++[z]))=true) :
  ∃ κ',INV bars κ' ((σ.set j (.tok k (v+1))).set id (.var (cs.set kk (.ow j (v+1) (es++[z]))))) w∧Kept σ.length κ σ w κ' ((σ.set j (.tok k (v+1))).set id (.var (cs.set kk (.ow j (v+1) (es++[z]))))) w∧True:=by
 obtain ⟨rfl,rfl,rfl,hbar⟩:=hc
 have hne:id≠j:=by rintro rfl; rw [hs] at hsj; cases hsj
 have hlt:id<σ.length:=(List.getElem?_eq_some_iff.1 hs).1
 have hltj:j<σ.length:=(List.getElem?_eq_some_iff.1 hsj).1
 obtain ⟨hg,h0,⟨c,T,hc,hrel,hone⟩,hM⟩:=hi.obs id _ hs
 obtain ⟨hgj,hkj,⟨cj,Tj,hcj,hzl,hE,pre,post,vs,hcl,hpre,hrz,honez⟩,hMj⟩:=hi.obs j _ hsj
 obtain ⟨u,hu,hle,ad,cap,rfl,hlc,hl⟩:=RelL.get hrel hcs
 obtain ⟨rfl,hcap⟩:=hl hgj (by omega)
 rw [hkj] at hcap
 simp only [Nat.zero_mul,Nat.add_zero,Nat.zero_add] at hcap hu
 have hwf:=hi.wf _ _ hsj
 simp only [ba,Bool.and_eq_true] at hwf
 have hvl:vs.length=k:=by rw [← hrz.length,hzl]
 have hcsz:cj.size=pre.length+vs.length+post.length:=by rw [← Array.length_toList,hcl]; simp only [List.length_append]
 have hcapsz:(κ.ρ j).2+cap * k≤cj.size:=by
  rcases Nat.eq_zero_or_pos (κ.cap (κ.ρ j).1) with h|h
  ·omega
  ·obtain ⟨d,T',fr,hd,hsz⟩:=hi.cap _ h
   rw [hcj] at hd; cases hd
   omega
 generalize he0:(κ.ρ j).2+es.length * k=e0 at hpre hMj
 generalize hB:(κ.ρ j).1=B at hcj hE hMj hu
 obtain ⟨tk,htk⟩:∃ tk:Option (Nat×Nat×Nat),tk=if cap=es.length+1 then none else some (B,e0+k,cap - (es.length+1)):=⟨_,rfl⟩
 obtain ⟨M',hM'⟩:∃ M':Nat→Nat→Option Value,M'=fun b o=>if b=B∧e0≤o∧o<e0+k then vs[o - e0]? else κ.M b o:=⟨_,rfl⟩
 have htk':∀ b e f,tk=some (b,e,f)→b=B∧e=e0+k∧f=cap - (es.length+1)∧0<f:=by
  intro b e f h
  rw [htk] at h
  split at h
  ·cases h
  ·simp only [Option.some.injEq,Prod.mk.injEq] at h
   obtain ⟨rfl,rfl,rfl⟩:=h
   exact ⟨rfl,rfl,rfl,by omega⟩
 have hext:Ext σ.length κ { (κ.grew j (v+1) tk) with M:=M' }:=by
  refine ⟨fun _ _ _=>rfl,fun _ _=>rfl,fun i hi'=>?_,fun i hi' hg=>?_,fun b o x hm=>?_,fun _=>Nat.le_refl _⟩
  ·simp only [Kn.grew]; split
   ·rename_i h; subst h; omega
   ·exact Nat.le_refl _
  ·simp only [Kn.grew] at hg ⊢
   split at hg
   ·rename_i h; subst h; omega
   ·rename_i h; rw [if_neg h]
  ·simp only [hM']
   rw [if_neg]
   ·exact hm
   ·rintro ⟨rfl,h1,h2⟩
    rw [hMj o h1] at hm; cases hm
 have hownj:own κ σ j=some B:=by rw [dx hsj,← hB]; rfl
 have hin:∀ i x,vs[i]? = some x→cj[e0+i]? = some x:=by
  intro i x hx
  have hlt':=(List.getElem?_eq_some_iff.1 hx).1
  rw [← Array.getElem?_toList,hcl,List.append_assoc,List.getElem?_append_right (by omega),List.getElem?_append_left (by omega),← hx]
  congr 1; omega
 obtain ⟨g1,g2⟩:=INV.one (w':=w) (κ':={ (κ.grew j (v+1) tk) with M:=M' }) (σ':=σ.set j (.tok k (v+1))) hi j (.tok k (v+1)) (by omega) (by simp; omega) (dC hltj) (fun i hi'=>cA hi') hext
  (fun i _ hi'=>by simp only [Kn.grew,if_neg hi']) (Nat.le_refl _) (fun _ _ _=>rfl)
  (fun b hb hno o=>by simp only [hM']; rw [if_neg (by rintro ⟨rfl,-⟩; exact hno hownj)])
  (by
   refine ⟨by simp [Kn.grew],hkj,fun b e f h=>?_⟩
   simp only [Kn.grew,if_true] at h
   obtain ⟨rfl,rfl,rfl,hf⟩:=htk' b e f h
   refine ⟨⟨cj,Tj,hcj,?_⟩,fun o ho=>?_⟩
   ·have:(es.length+1) * k+(cap - (es.length+1)) * k=cap * k:=by rw [← Nat.add_mul]; congr 1; omega
    rw [Nat.succ_mul] at this
    omega
   ·simp only [hM']
    rw [if_neg (by omega)]
    exact hMj o (by omega))
  (fun b hb=>by
   simp only [ee,Kn.grew,if_true,Option.map_eq_some_iff] at hb
   obtain ⟨⟨b',e,f⟩,h,rfl⟩:=hb
   obtain ⟨rfl,-⟩:=htk' _ e f h
   exact .inl hownj)
  (fun b o x hm=>by
   simp only [hM'] at hm
   split at hm
   ·rename_i h
    obtain ⟨rfl,h1,h2⟩:=h
    have:=hin (o - e0) x hm
    rw [show e0+(o - e0)=o by omega] at this
    rw [bU hcj,this]
   ·exact hi.mem _ _ _ hm)
  hi.cap rfl (fun _ _ _=>rfl) rfl rfl rfl
 have hbb:∀ n,below.belowEs n (es++[z])=true:=fun n=>by
  rw [eN,bp (Nat.zero_le _) _ hwf.1]
  simp [below.belowEs,br (Nat.zero_le n) _ hwf.2]
 have hs1:(σ.set j (.tok k (v+1)))[id]? = some (.var cs):=by rw [cA hne]; exact hs
 have g3:=INV.recell (q:=.ow j (v+1) (es++[z])) g1 hs1 hcs (fun x c' T' hc' hx hp=>by
  have hcc:c'=c:=by
   rw [show (({ (κ.grew j (v+1) tk) with M:=M' }:Kn).ρ id).1=(κ.ρ id).1 from rfl,hc] at hc'
   cases hc'; rfl
  subst hcc
  have hxu:x=.slice (some ⟨B,(κ.ρ j).2,none⟩) (es.length+1) cap:=by
   rw [Array.getElem?_toList] at hu
   rw [hx] at hu; exact Option.some.inj hu
  refine ⟨by simp [Kn.grew],_,cap,k,by rw [hxu]; simp,by simpa using hlc,fun _=>⟨B,(κ.ρ j).2,rfl,?_⟩,fun _=>?_⟩
  ·refine RelE.append (RelE.mono hext _ _ _ _ (bp (Nat.zero_le _) _ hwf.1) hE) ?_
   rw [he0]
   refine RelE.of (vs:=vs) (fun e he=>by simp at he; subst he; exact hzl) (by simpa using RelL.mono hext _ _ (br (Nat.zero_le _) _ hwf.2) hrz) fun i y hy=>⟨?_,honez y (List.mem_of_getElem? hy)⟩
   have hlt':=(List.getElem?_eq_some_iff.1 hy).1
   simp only [hM']
   rw [if_pos ⟨trivial,by omega,by omega⟩,show e0+i - e0=i by omega,hy]
  ·simp only [nN,Kn.grew,if_true,List.length_append,List.length_singleton]
   split
   ·split at htk
    ·assumption
    ·cases htk
   ·rename_i b e f _
    obtain ⟨rfl,rfl,rfl,hf⟩:=htk' b e f rfl
    refine ⟨hf,by omega,(κ.ρ j).2,rfl,?_⟩
    rw [hkj,Nat.succ_mul]; omega) (by simp [below,hbb,hltj]) (fun n hn hlt'=>qV hbar n hn hlt')
 exact ⟨_,g3,⟨g2.ext,g2.size,g2.keep,fun i b hib=>g2.own i b (by rw [Jf hs1] at hib; exact hib),g2.M,g2.os,g2.output,g2.tape⟩,trivial⟩
theorem INV.freeze {bars:List Nat} {κ:Kn} {σ:Sto} {w:World} (hi:INV bars κ σ w) {id ver off len v k:Nat} {es:List (List PV)} {x:Value} (hs:σ[id]? = some (.arr v k es)) (hx:RelV κ (.rs id ver off len) x) (hc:v=ver∧off+len≤es.length) :
  ∃ κ',INV bars κ' (σ.set id (.tok k (v+1))) w∧Kept σ.length κ σ w κ' (σ.set id (.tok k (v+1))) w∧RelV κ' (.sl false ((es.drop off).take len)) x∧below 0 (.sl false ((es.drop off).take len))=true:=by
 obtain ⟨rfl,hle⟩:=hc
 have hlt:id<σ.length:=(List.getElem?_eq_some_iff.1 hs).1
 obtain ⟨hg,hk,⟨c,T,hc,hes,hone,pre,post,vs,hcl,hpre,hrel⟩,hM⟩:=hi.obs id _ hs
 obtain ⟨-,ad,cap,rfl,hlc,hl⟩:=hx
 have hl:=hl hg
 have hwf:below.belowEs 0 es=true:=by simpa [ba] using hi.wf _ _ hs
 have hcsz:c.size=pre.length+vs.length+post.length:=by rw [← Array.length_toList,hcl]; simp only [List.length_append]
 have hownj:own κ σ id=some (κ.ρ id).1:=by rw [dx hs]; rfl
 obtain ⟨M',hM'⟩:∃ M':Nat→Nat→Option Value,M'=fun b o=>if b=(κ.ρ id).1∧(κ.ρ id).2≤o∧o<(κ.ρ id).2+vs.length then vs[o - (κ.ρ id).2]? else κ.M b o:=⟨_,rfl⟩
 have hext:Ext σ.length κ { (κ.grew id (v+1) none) with M:=M' }:=by
  refine ⟨fun _ _ _=>rfl,fun _ _=>rfl,fun i hi'=>?_,fun i hi' hg=>?_,fun b o x hm=>?_,fun _=>Nat.le_refl _⟩
  ·simp only [Kn.grew]; split
   ·rename_i h; subst h; omega
   ·exact Nat.le_refl _
  ·simp only [Kn.grew] at hg ⊢
   split at hg
   ·rename_i h; subst h; omega
   ·rename_i h; rw [if_neg h]
  ·simp only [hM']
   rw [if_neg]
   ·exact hm
   ·rintro ⟨rfl,h1,h2⟩
    rw [hM o h1] at hm; cases hm
 have hin:∀ i x,vs[i]? = some x→c[(κ.ρ id).2+i]? = some x:=by
  intro i x hx
  have hlt':=(List.getElem?_eq_some_iff.1 hx).1
  rw [← Array.getElem?_toList,hcl,List.append_assoc,List.getElem?_append_right (by omega),List.getElem?_append_left (by omega),← hx]
  congr 1; omega
 obtain ⟨g1,g2⟩:=INV.one (w':=w) (κ':={ (κ.grew id (v+1) none) with M:=M' }) (σ':=σ.set id (.tok k (v+1))) hi id (.tok k (v+1)) (by omega) (by simp; omega) (dC hlt) (fun i hi'=>cA hi') hext
  (fun i _ hi'=>by simp only [Kn.grew,if_neg hi']) (Nat.le_refl _) (fun _ _ _=>rfl)
  (fun b hb hno o=>by simp only [hM']; rw [if_neg (by rintro ⟨rfl,-⟩; exact hno hownj)])
  ⟨by simp [Kn.grew],hk,fun b e f h=>by simp [Kn.grew] at h⟩
  (fun b hb=>by simp [ee,Kn.grew] at hb)
  (fun b o x hm=>by
   simp only [hM'] at hm
   split at hm
   ·rename_i h
    obtain ⟨rfl,h1,h2⟩:=h
    have:=hin (o - (κ.ρ id).2) x hm
    rw [show (κ.ρ id).2+(o - (κ.ρ id).2)=o by omega] at this
    rw [bU hc,this]
   ·exact hi.mem _ _ _ hm)
  hi.cap rfl (fun _ _ _=>rfl) rfl rfl rfl
 have hn:((es.drop off).take len).length=len:=by simp; omega
 refine ⟨_,g1,g2,⟨ad,cap,k,by rw [hn],by rw [hn]; exact hlc,by simp,fun hne=>?_⟩,?_⟩
 ·have h0:0<len:=by
   rcases Nat.eq_zero_or_pos len with h|h
   ·subst h; simp at hne
   ·exact h
  obtain ⟨rfl,-⟩:=hl (by omega)
  refine ⟨_,_,rfl,?_⟩
  rw [hk]
  refine RelE.part (RelE.of (vs:=vs) hes (RelL.mono hext _ _ (by rw [bZ]; exact bp (Nat.zero_le _) _ hwf) hrel) fun j y hj=>⟨?_,hone y ?_⟩) off len
  ·have hlt':=(List.getElem?_eq_some_iff.1 hj).1
   simp only [hM']
   rw [if_pos ⟨trivial,by omega,by omega⟩,show (κ.ρ id).2+j - (κ.ρ id).2=j by omega,hj]
  ·rw [hcl]; simp [List.mem_of_getElem? hj]
 ·simp only [below]; exact iL (wx hwf)
theorem hJ {bars:List Nat} {w:World}:∀ (l:List Ps) {env env':Env} {σ σ':Sto} {κ:Kn} {tmps:Array Value},INV bars κ σ w→ENV κ σ.length env tmps→psE bars env σ l=some (env',σ') →
  ∃ κ',INV bars κ' σ' w∧ENV κ' σ'.length env' tmps∧Kept σ.length κ σ w κ' σ' w∧σ.length≤σ'.length
 | [],env,env',σ,σ',κ,tmps,hi,he,h=>by
  simp only [psE,Option.some.injEq,Prod.mk.injEq] at h
  obtain ⟨rfl,rfl⟩:=h
  exact ⟨κ,hi,he,Kept.refl _ _ _ _,Nat.le_refl _⟩
 | .own s esz::r,env,env',σ,σ',κ,tmps,hi,he,h=>by
  simp only [psE] at h
  split at h
  ·rename_i es0 hl
   obtain ⟨h1,h2⟩:=hi.push_tok esz
   have hwf:=he.wf s _ hl
   have hrel:=he.rel s _ hl
   have hlt:=he.lt s _ hl
   have he1:=he.mono h2.ext (m:=(σ++[Ob.tok esz 0]).length) (by simp)
   obtain ⟨ad,cap,es,hx,hc,ht,hE⟩:=hrel
   have hc0:cap=es0.length:=ht rfl
   subst hc0
   have hnew:RelV { κ with gen:=fun j=>if j=σ.length then 0 else κ.gen j,esz:=fun j=>if j=σ.length then esz else κ.esz j,tok:=fun j=>if j=σ.length then none else κ.tok j } (.ow σ.length 0 es0) (tmps.getD s undef) :=
    ⟨Nat.zero_le _,ad,es0.length,es,hx,Nat.le_refl _,fun hne=>by
     obtain ⟨b,o,e1,e2⟩:=hE hne
     exact ⟨b,o,e1,RelE.mono h2.ext _ _ _ _ (by simpa [below] using hwf) e2⟩,fun _=>by simp [nN]⟩
   obtain ⟨κ',g1,g2,g3,g4⟩:=hJ r h1 (he1.cons' hlt hnew (by simp only [below] at hwf ⊢; simp [bp (Nat.le_succ σ.length) es0 hwf])) h
   exact ⟨κ',g1,g2,h2.trans g3 (by simp),Nat.le_trans (by simp) g4⟩
  ·exact hJ r hi he h
  ·cases h
 | .ownAt s off esz::r,env,env',σ,σ',κ,tmps,hi,he,h=>by
  simp only [psE] at h
  split at h
  ·rename_i id oo hl
   split at h
   ·rename_i cs hs
    split at h
    ·rename_i es0 hcs
     split at h
     ·rename_i hbar
      have hlt:id<σ.length:=(List.getElem?_eq_some_iff.1 hs).1
      obtain ⟨h1,h2⟩:=hi.push_tok esz
      have hs1:(σ++[Ob.tok esz 0])[id]? = some (.var cs):=by rw [List.getElem?_append_left hlt]; exact hs
      have hwf:below.belowEs σ.length es0=true:=by
       have h:=hi.wf id _ hs
       simp only [ba] at h
       have:=bR h (List.mem_of_getElem? hcs)
       simpa [below] using this
      have h3:=INV.recell (q:=.ow σ.length 0 es0) h1 hs1 hcs (fun x _ _ _ _ hx=>by
       obtain ⟨ad,cap,es,hx,hc,ht,hE⟩:=hx
       have hc0:cap=es0.length:=ht rfl
       subst hc0
       exact ⟨Nat.zero_le _,ad,es0.length,es,hx,Nat.le_refl _,hE,fun _=>by simp [nN]⟩) (by simp [below,bp (Nat.le_succ σ.length) es0 hwf]) (fun n hn hi'=>qV hbar n hn hi')
      have hset:(σ++[Ob.tok esz 0]).set id (.var (cs.set (oo+off) (.ow σ.length 0 es0)))=σ.set id (.var (cs.set (oo+off) (.ow σ.length 0 es0)))++[.tok esz 0]:=List.set_append_left _ _ hlt
      rw [hset] at h3
      have he1:=he.mono h2.ext (m:=(σ.set id (.var (cs.set (oo+off) (.ow σ.length 0 es0)))++[Ob.tok esz 0]).length) (by simp)
      have h2':Kept σ.length κ σ w { κ with gen:=fun j=>if j=σ.length then 0 else κ.gen j,esz:=fun j=>if j=σ.length then esz else κ.esz j,tok:=fun j=>if j=σ.length then none else κ.tok j } (σ.set id (.var (cs.set (oo+off) (.ow σ.length 0 es0)))++[.tok esz 0]) w :=
       ⟨h2.ext,h2.size,h2.keep,fun i b hib=>h2.own i b (by rw [← hset,Jf hs1] at hib; exact hib),h2.M,h2.os,h2.output,h2.tape⟩
      obtain ⟨κ',g1,g2,g3,g4⟩:=hJ r h3 he1 h
      exact ⟨κ',g1,g2,h2'.trans g3 (by simp),Nat.le_trans (by simp) g4⟩
     ·cases h
    ·exact hJ r hi he h
    ·cases h
   ·cases h
  ·cases h
 | .shutp s::r,env,env',σ,σ',κ,tmps,hi,he,h=>by
  simp only [psE] at h
  split at h
  ·rename_i v hl
   exact hJ r hi (he.cons' (he.lt s _ hl) (RelV.norm v _ (he.rel s _ hl)) (jD v (he.wf s _ hl))) h
  ·cases h
 | .mut s::r,env,env',σ,σ',κ,tmps,hi,he,h=>by simp [psE] at h
 | .frz s::r,env,env',σ,σ',κ,tmps,hi,he,h=>by
  simp only [psE] at h
  split at h
  ·rename_i id ver off len hl
   split at h
   ·rename_i v k es hs
    split at h
    ·rename_i hc
     obtain ⟨κ1,h1,h2,h3,h3'⟩:=INV.freeze hi hs (he.rel s _ hl) hc
     have h4:σ.length≤(σ.set id (.tok k (v+1))).length:=by simp
     obtain ⟨κ',g1,g2,g3,g4⟩:=hJ r h1 ((he.mono h2.ext h4).cons' (he.lt s _ hl) h3 (bk (Nat.zero_le _) _ h3')) h
     exact ⟨κ',g1,g2,h2.trans g3 h4,Nat.le_trans h4 g4⟩
    ·cases h
   ·exact hJ r hi he h
  ·exact hJ r hi he h
  ·cases h
 | .com s off::r,env,env',σ,σ',κ,tmps,hi,he,h=>by
  simp only [psE] at h
  split at h
  ·rename_i id oo hl
   split at h
   ·rename_i cs hs
    split at h
    ·rename_i j ver of len hcs
     split at h
     ·rename_i v k es z hsj
      split at h
      ·rename_i hcond
       obtain ⟨κ1,h1,h2,h3⟩:=INV.commit hi hs hcs hsj hcond
       have h4:σ.length≤((σ.set j (.tok k (v+1))).set id (.var (cs.set (oo+off) (.ow j (v+1) (es++[z]))))).length:=by simp
       obtain ⟨κ',g1,g2,g3,g4⟩:=hJ r h1 (he.mono h2.ext h4) h
       exact ⟨κ',g1,g2,h2.trans g3 h4,Nat.le_trans h4 g4⟩
      ·cases h
     ·exact hJ r hi he h
    ·exact hJ r hi he h
    ·cases h
   ·cases h
  ·cases h
def iZ:IC→Bool
 | .seq a b=>iZ a && iZ b
 | .ps _ a=>iZ a
 | .psa a _=>iZ a
 | .cond _ a b=>iZ a && iZ b
 | .block _ a=>iZ a
 | .loop a=>iZ a
 | .cut a _=>iZ a
 | .rfunc ..=>false
 | .dfr ..=>false
 | _=>true
theorem sT {env:Env}:∀ {keep:List Nat} {s:Nat} {v:PV},(s,v)∈restrict keep env→bw env s=some v
 | [],s,v,h=>by simp [restrict] at h
 | k::r,s,v,h=>by
  simp only [restrict] at h
  split at h
  ·rename_i u hu
   simp only [List.mem_cons,Prod.mk.injEq] at h
   rcases h with ⟨rfl,rfl⟩|h
   ·exact hu
   ·exact sT h
  ·exact sT h
theorem INV.push_loop {bars:List Nat} {κ:Kn} {σ:Sto} {w:World} (hi:INV bars κ σ w) {env:Env} {ps keep:List Nat} {asg bd:IC} {r:Loop} (hr:r.params.toList=ps∧r.state=.ready∧r.pending=none) (he:ENV κ σ.length env r.tmps) (hc:CodeRel.cd asg r.assign r.tmps.size∧CodeRel.cd bd r.body r.tmps.size∧∀ p∈ps,p<r.tmps.size) :
  INV bars (κ.at σ.length (w.heap.size+1)) (σ++[.loop (restrict keep env) ps asg bd 0 none]) ((w.alloc (.deferred (some []))).alloc (.loop r))∧Kept σ.length κ σ w (κ.at σ.length (w.heap.size+1)) (σ++[.loop (restrict keep env) ps asg bd 0 none]) ((w.alloc (.deferred (some []))).alloc (.loop r)) ∧
   Marks (κ.at σ.length (w.heap.size+1)) (σ++[.loop (restrict keep env) ps asg bd 0 none]) w ((w.alloc (.deferred (some []))).alloc (.loop r)) [w.heap.size]:=by
 obtain ⟨g1,g2⟩:=INV.more (w':=w.alloc (.deferred (some []))) (κ':=κ) hi (Ext.refl _ _) (fun _ _=>rfl) (by show _≤(w.heap.push _).size; simp) (fun b hb=>by show (w.heap.push _)[b]? = _; exact aW hb) (fun _ _ _=>rfl)
  (fun b o u hm=>by
   have hlt:=oc (hi.mem b o u hm)
   have:=hi.mem b o u hm
   simp only [World.cell?] at this ⊢
   show (match (w.heap.push _)[b]? with|some (.cells c _ _)=>_|_=>_)=_
   rw [aW hlt]; exact this)
  (fun b hb=>by
   obtain ⟨c,T,fr,h,hsz⟩:=hi.cap b hb
   exact ⟨c,T,fr,by show (w.heap.push _)[b]? = _; rw [aW (Array.getElem?_eq_some_iff.1 h).1]; exact h,hsz⟩) rfl rfl rfl
 have hsz:(w.alloc (.deferred (some []))).heap.size=w.heap.size+1:=by show (w.heap.push _).size=_; simp
 obtain ⟨h6,h7⟩:=INV.push_ob (w':=(w.alloc (.deferred (some []))).alloc (.loop r)) (obj:=.loop r) (ob:=.loop (restrict keep env) ps asg bd 0 none) (κ':=κ.at σ.length (w.heap.size+1)) g1 rfl rfl rfl rfl (Ext.at _ _ _) (fun j hj=>by simp [Kn.at,Nat.ne_of_lt hj]) rfl (fun b hb=>.inl ⟨hb,rfl⟩)
  (by
   refine ⟨by simp [Kn.at],r,?_,hr.1,hr.2.1,hr.2.2,fun s v hs=>?_,hc⟩
   ·simp only [Kn.at,if_true]; rw [← hsz]; exact mf _ _
   ·have hl:=gL hs
    exact ⟨RelV.mono (Ext.at κ σ.length (w.heap.size+1)) v _ (he.wf s v hl) (he.rel s v hl),he.lt s v hl⟩)
  (fun b hb=>by simp [ee,Kn.at] at hb; rw [hsz]; exact hb.symm)
  (by
   simp only [ba,List.all_eq_true]
   rintro ⟨s,v⟩ hm
   exact bk (Nat.le_succ _) _ (he.wf s v (sT hm)))
 refine ⟨h6,g2.trans h7 (Nat.le_refl _),⟨by simp,by simp,fun D hD=>?_,fun D hD i hi'=>?_⟩⟩
 ·simp only [List.mem_singleton] at hD; subst hD
  have hlt:w.heap.size<(w.alloc (.deferred (some []))).heap.size:=by omega
  show ((w.alloc (.deferred (some []))).heap.push _)[w.heap.size]? = _
  rw [aW hlt]
  exact mf _ _
 ·simp only [List.mem_singleton] at hD; subst hD
  rcases h7.own i _ hi' with ⟨j,hj⟩|hge
  ·have:=o8 hi hj; omega
  ·omega
theorem INV.set_loop {bars:List Nat} {κ:Kn} {σ:Sto} {w:World} (hi:INV bars κ σ w) {l:Nat} {env:Env} {ps:List Nat} {asg bd:IC} {st st':Nat} {pend pend':Option (Option Nat)} (hs:σ[l]? = some (.loop env ps asg bd st pend)) :
  ∃ r:Loop,κ.gen l=1∧w.heap[(κ.ρ l).1]? = some (.loop r)∧I4 κ env ps asg bd st pend r ∧
   INV bars κ (σ.set l (.loop env ps asg bd st' pend')) (w.putObj (κ.ρ l).1 (.loop { r with state:=Et st',pending:=sd pend' })) ∧
   Kept σ.length κ σ w κ (σ.set l (.loop env ps asg bd st' pend')) (w.putObj (κ.ρ l).1 (.loop { r with state:=Et st',pending:=sd pend' })):=by
 obtain ⟨hg,r,hr,hrel⟩:=hi.obs l _ hs
 have hl:l<σ.length:=(List.getElem?_eq_some_iff.1 hs).1
 have hb:(κ.ρ l).1<w.heap.size:=(Array.getElem?_eq_some_iff.1 hr).1
 have hown:own κ σ l=some (κ.ρ l).1:=by rw [dx hs]; rfl
 refine ⟨r,hg,hr,hrel,?_⟩
 refine INV.one hi l (.loop env ps asg bd st' pend') (Nat.le_of_lt hl) (by simp; omega) (dC hl) (fun j hj=>cA hj) (Ext.refl _ _) (fun _ _ _=>rfl) (by simp) (fun b hb' hne=>?_) (fun _ _ _ _=>rfl)
  ⟨hg,_,World.putObj_heap_same hb,hrel.1,rfl,rfl,hrel.2.2.2⟩ (fun b hb'=>.inl (by simp only [ee,Option.some.injEq] at hb'; rw [hown,hb'])) (fun b o v hm=>?_) (fun b hb'=>?_) (by rw [List.length_set]; have:=hi.wf l _ hs; simpa only [ba] using this) (fun n hn hlt=>by have:=(hi.wfb n hn).2 l _ hlt hs; simpa only [ba] using this) rfl rfl rfl
 ·exact World.putObj_heap_other (fun e=>hne (by rw [hown,e]))
 ·have h1:=hi.mem b o v hm
  have hne:b≠(κ.ρ l).1:=by
   rintro rfl
   simp [World.cell?,hr] at h1
  simp only [World.cell?] at h1 ⊢
  rw [World.putObj_heap_other hne]; exact h1
 ·obtain ⟨c,T,fr,h1,h2⟩:=hi.cap b hb'
  have hne:b≠(κ.ρ l).1:=by
   rintro rfl
   rw [hr] at h1; cases h1
  exact ⟨c,T,fr,by rw [World.putObj_heap_other hne]; exact h1,h2⟩
def dv (P:Program) (nt:Nat):IC→Code→Bool
 | .skip,.skip=>true
 | .skip,.label _=>true
 | .stuck,_=>true
 | .seq a b,.seq c d=>dv P nt a c && dv P nt b d
 | .reg none xs _,.region _ ops false=>jH P nt ops (List.range ops.size) xs
 | .reg (some ix) xs _,.region _ ops true=>P.follows .mixedOrders && (ix.length == xs.length || (ix.length == xs.length+1 && sS (EN (Region.before ops)) (mkL ix xs))) && Je P nt ops (mkL ix xs)
 | .ps _ a,c=>dv P nt a c
 | .psa a _,c=>dv P nt a c
 | .cond x a b,.cond y c d=>aJ x y && dv P nt a c && dv P nt b d
 | .block i a,.block j c=>i == j && dv P nt a c
 | .loop a,.loop c=>dv P nt a c
 | .cut a _,c=>dv P nt a c
 | .rfunc x ps _ asg bd,.rangeFunc y qs asg' bd'=>aJ x y && ps == qs.toList && ps.all (fun p=>decide (p<nt)) && dv P nt asg asg' && dv P nt bd bd' && iZ asg && iZ bd
 | .exit i _,.exit j=>i == j
 | .ret _,.ret=>true
 | _,_=>false
theorem vt {n:Nat}:∀ {env:Env},dA n env=true→∀ s v,bw env s=some v→below n v=true
 | [],_,s,v,h=>by simp [bw] at h
 | (t,u)::r,hb,s,v,h=>by
  simp only [dA,Bool.and_eq_true] at hb
  simp only [bw] at h
  split at h
  ·cases h; exact hb.1
  ·exact vt hb.2 s v h
section
variable {P:Program} {nt:Nat}
theorem LP (hK:∀ ic c m,CodeRel.cd ic c m ↔ dv P m ic c=true∧iZ ic=true) {calls:bY} (hcalls:dL P calls) {it:It} {x:Opd} {y:Operand} {qs:Array Tmp} {keep:List Nat} {asg bd:IC} {asg' bd':Code}
  (hxy:aJ x y=true) (hlt:∀ p∈qs.toList,p<nt) (ha:dv P nt asg asg'=true) (hb:dv P nt bd bd'=true) (hna:iZ asg=true) (hnb:iZ bd=true)
  {bars:List Nat} {env:Env} {σ:Sto} {r:Ex×Env×Sto} {κ:Kn} {a:Act} {w:World} {Q:Exit→Act→World→Prop} (hi:INV bars κ σ w) (he:ENV κ σ.length env a.tmps) (hs:a.tmps.size=nt) (hr:evC calls it bars (.rfunc x qs.toList keep asg bd) env σ=some r)
  (hQ:∀ e a' w' κ',Post bars κ σ w a r e a' w' κ'→Q e a' w'):(Code.rangeFunc y qs asg' bd').wpIn (FW none) 0 P Q a w:=by
 simp only [evC] at hr
 split at hr
 case h_2=>cases hr
 rename_i g' cap hx
 split at hr
 case isFalse=>cases hr
 rename_i hg
 obtain ⟨⟨us,hy,hrel⟩,hbel⟩:=aA he hxy hx
 refine wpIn_rangeFunc fun fn _=>?_
 obtain ⟨rec,hrec⟩:∃ rec:Loop,rec={ state:=.ready,pending:=none,fn,tmps:=a.tmps,params:=qs,assign:=asg',body:=bd',defers:=w.heap.size }:=⟨_,rfl⟩
 obtain ⟨h1,h2,h3⟩:=INV.push_loop (keep:=keep) (env:=env) (ps:=qs.toList) (asg:=asg) (bd:=bd) (r:=rec) hi (by subst hrec; exact ⟨rfl,rfl,rfl⟩) (by subst hrec; exact he)
  (by subst hrec; exact ⟨(hK _ _ _).2 ⟨by simp only; rw [hs]; exact ha,hna⟩,(hK _ _ _).2 ⟨by simp only; rw [hs]; exact hb,hnb⟩,fun p hp=>by simp only; rw [hs]; exact hlt p (by simpa using hp)⟩)
 generalize hκ:κ.at σ.length (w.heap.size+1)=κ1 at h1 h2 h3
 have hρ:(κ1.ρ σ.length).1=w.heap.size+1:=by rw [← hκ]; simp [Kn.at]
 have hg1:κ1.gen σ.length=1:=by rw [← hκ]; simp [Kn.at]
 generalize hσ:σ++[Ob.loop (restrict keep env) qs.toList asg bd 0 none]=σ1 at h1 h2 h3 hr
 generalize hw:(w.alloc (.deferred (some []))).alloc (.loop rec)=w1 at h1 h2 h3
 have hl1:σ1.length=σ.length+1:=by rw [← hσ]; simp
 cases hcl:calls bars g' (.yld σ.length::cap) σ1 with
 | none=>rw [hcl] at hr; cases hr
 | some y1 =>
  obtain ⟨hca,hok⟩:=hcalls _ _ _ _ _ hcl
  obtain ⟨args,hargs⟩:∃ args:Array Value,args=#[Value.func (.yield (w.heap.size+1)) #[] #[]]++us:=⟨_,rfl⟩
  have hinv:(invoke (.fn (.func g') us) #[Value.func (.yield (w.heap.size+1)) #[] #[]]).run P w1=.ok (.enter g' args) w1:=by
   have:=j7 (w:=w1) (hca hg) args
   rw [hargs] at this ⊢
   simp [invoke,go_sem]
   simpa using this
  have hrl:RelL κ1 (.yld σ.length::cap) args.toList:=by
   rw [hargs,Array.toList_append]
   exact ⟨_,_,rfl,⟨_,rfl,by rw [hg1]; exact Nat.le_refl _,fun _=>hρ.symm⟩,RelL.mono h2.ext _ _ (by simpa [below] using hbel) hrel⟩
  have hcall:=(hok κ1 w1 args h1
   hrl
   (by simp only [below.belowAll,below,Bool.and_eq_true,decide_eq_true_eq]; exact ⟨by omega,br (show σ.length≤σ1.length by omega) _ (by simpa [below] using hbel)⟩)).1 hg
  rw [hcl] at hr
  have hdep:(FW none).depth.isSome=true→1≤0:=fun h=>by cases h
  have hfin:CallsIn (FW none) (0 - 1) P g' args w1 (rangePost (FW none) 0 P (w.heap.size+1) Q { a with defers:=[Gc w.heap.size]++a.defers }):=?fin
  refine ⟨w.heap.size+1,[Gc w.heap.size],w1,{ target:=.fn (.func g') us,args:=#[.func (.yield (w.heap.size+1)) #[] #[]] },w1,g',args,w1,?_,?_,?_,?_,hdep,hfin⟩
  case fin =>
   refine A4 (hcall.mono fun e w2 hp=>?_)
   obtain ⟨κ2,g1,g2,g3,g4⟩:=hp
   have hk12:=h2.trans g2 (by omega)
   have hd1:Dfr κ1 σ1 w w1 a.defers ([Gc w.heap.size]++a.defers):=⟨[w.heap.size],rfl,h3⟩
   obtain ⟨o1,σ2⟩:=y1
   simp only at g1 g2 g3 g4 hk12
   cases o1 with
   | pan v =>
    simp only at hr g4
    cases hr
    obtain ⟨u,rfl,g5,g6⟩:=g4
    exact hQ _ _ _ κ2 ⟨g1,hk12,by simp only; omega,rfl,hd1.trans g2 h2.size .refl,u,rfl,g5,g6,he.mono hk12.ext (by simp only; omega)⟩
   | ret v =>
    simp only at hr g4
    obtain ⟨u,rfl,g5,g6⟩:=g4
    split at hr
    case h_2=>cases hr
    rename_i env' ps' a' b' st pend hst
    simp only [Option.bind_eq_some_iff,Option.some.injEq] at hr
    obtain ⟨ex,hex,rfl⟩:=hr
    obtain ⟨r2,e1,e2,e3,e4,e5⟩:=INV.set_loop (st':=3) (pend':=pend) g1 hst
    have hρ2:(κ2.ρ σ.length).1=w.heap.size+1:=by rw [g2.ext.ρ σ.length (by omega) (by rw [e1,hg1]),hρ]
    rw [hρ2] at e2 e4 e5
    have hst2:r2.state≠.busy∧r2.pending=sd pend:=by
     obtain ⟨-,k1,k2,-⟩:=e3
     refine ⟨?_,k2⟩
     rw [k1]
     unfold sc at hex
     split at hex<;>first|(cases hex; done)|simp [Et]
    have hend:=run_endLoop (P:=P) e2 hst2.1
    rw [show ({ r2 with state:=LoopState.exhausted }:Loop)={ r2 with state:=Et 3,pending:=sd pend } by rw [← hst2.2]; rfl] at hend
    have hlen2:σ.length≤(σ2.set σ.length (.loop env' ps' a' b' 3 pend)).length:=by simp; omega
    have hkk:=hk12.trans e5 (by omega)
    have hdd:=(hd1.trans g2 h2.size (Dfr.refl (κ:=κ2) (σ:=σ2) (w0:=w1) (w:=w2))).trans e5 (Nat.le_trans h2.size g2.size) (Dfr.refl (κ:=κ2))
    have henv:=he.mono hkk.ext hlen2
    have hpost:∀ ex':Exit,(match ex with|.norm=>ex'=.normal|.exit id=>ex'=.exit id|.ret=>ex'=.ret|.pan _=>False)→Q ex' { a with defers:=[Gc w.heap.size]++a.defers } (w2.putObj (w.heap.size+1) (.loop { r2 with state:=Et 3,pending:=sd pend })):=by
     intro ex' hex'
     refine hQ ex' _ _ κ2 ⟨e4,hkk,hlen2,rfl,hdd,?_⟩
     cases ex with
     | norm=>exact ⟨hex',henv⟩
     | exit id=>exact ⟨hex',henv⟩
     | ret=>exact ⟨hex',henv⟩
     | pan v=>exact hex'.elim
    refine ⟨_,_,hend,?_⟩
    rw [hst2.2]
    unfold sc at hex
    split at hex
    ·cases hex; exact hpost .normal rfl
    ·cases hex; exact wpIn_ret (hpost .ret rfl)
    ·cases hex; exact wpIn_exit (hpost (.exit _) rfl)
    ·cases hex
  ·rw [← hw,hrec]; exact run_enterLoop_outer _ _ _ _ _
  ·simp only [resolve,hy]
   simp [go_sem]
  ·intro f' _; trivial
  ·exact hinv
theorem qc (hK:∀ ic c m,CodeRel.cd ic c m ↔ dv P m ic c=true∧iZ ic=true) {calls:bY} (hcalls:dL P calls) {ro:Option Nat} {nr:Bool} (hrn:ro=none∨nr=true) (n:Nat):∀ (ic:IC) (c:Code),dv P nt ic c=true→(nr=true→iZ ic=true)→∀ {bars:List Nat} {env:Env} {σ:Sto} {r:Ex×Env×Sto} {κ:Kn} {a:Act} {w:World} {Q:Exit→Act→World→Prop},
  INV bars κ σ w→ENV κ σ.length env a.tmps→a.tmps.size=nt→evC calls (fun s x=>dB s n x) bars ic env σ=some r→(∀ e a' w' κ',Post bars κ σ w a r e a' w' κ'→(nr=true→a'.defers=a.defers)→Q e a' w')→c.wpIn (FW ro) 0 P Q a w:=by
 intro ic
 induction ic with
 | skip =>
  intro c hc hro bars env σ r κ a w Q hi he hs hr hQ
  simp only [evC,Option.some.injEq] at hr
  subst hr
  cases c<;>simp [dv] at hc
  ·exact wpIn_skip (hQ _ _ _ κ ⟨hi,Kept.refl _ _ _ _,Nat.le_refl _,rfl,.refl,rfl,he⟩ fun _=>rfl)
  ·exact wpIn_label (hQ _ _ _ κ ⟨hi,Kept.refl _ _ _ _,Nat.le_refl _,rfl,.refl,rfl,he⟩ fun _=>rfl)
 | seq x y ihx ihy =>
  intro c hc hro bars env σ r κ a w Q hi he hs hr hQ
  cases c<;>simp [dv] at hc
  rename_i c d
  simp only [evC] at hr
  refine wpIn_seq ?_
  cases hx:evC calls (fun s x=>dB s n x) bars x env σ with
  | none=>rw [hx] at hr; cases hr
  | some r1 =>
   rw [hx] at hr
   refine ihx c hc.1 (fun h=>by have h:=hro h; simp [iZ] at h; exact h.1) hi he hs hx fun e a1 w1 κ1 hp hd=>?_
   obtain ⟨e1,env1,σ1⟩:=r1
   cases e1 with
   | norm =>
    obtain ⟨rfl,he1⟩:=hp.ex
    exact ihy d hc.2 (fun h=>by have h:=hro h; simp [iZ] at h; exact h.2) hp.inv he1 (hp.size.trans hs) hr fun e a' w' κ' hp' hd'=>hQ e a' w' κ' (hp'.trans hp.kept hp.len hp.size hp.defers) fun h=>(hd' h).trans (hd h)
   | exit id =>
    cases hr
    obtain ⟨rfl,he1⟩:=hp.ex
    exact hQ _ _ _ κ1 hp hd
   | ret =>
    cases hr
    obtain ⟨rfl,he1⟩:=hp.ex
    exact hQ _ _ _ κ1 hp hd
   | pan v =>
    cases hr
    obtain ⟨y,rfl,he1⟩:=hp.ex
    exact hQ _ _ _ κ1 hp hd
 | reg d xs keep =>
  intro c hc hro bars env σ r κ a w Q hi he hs hr hQ
  cases d with
  | some ix =>
   obtain ⟨id,ops,rfl,hm,hl,hc⟩:∃ id ops,c=.region id ops true∧P.follows .mixedOrders=true∧(ix.length=xs.length∨(ix.length=xs.length+1∧sS (EN (Region.before ops)) (mkL ix xs)=true))∧Je P nt ops (mkL ix xs)=true:=by
    cases c<;>first|(simp [dv] at hc; done)|skip
    rename_i id ops d'
    cases d'<;>first|(simp [dv] at hc; done)|skip
    simp only [dv,Bool.and_eq_true,Bool.or_eq_true,beq_iff_eq] at hc
    exact ⟨id,ops,rfl,hc.1.1,hc.1.2,hc.2⟩
   have hl':xs.length≤ix.length:=by rcases hl with h|h<;>omega
   simp only [evC] at hr
   cases hx:bD calls bars xs env σ with
   | none=>rw [hx] at hr; simp at hr
   | some r1 =>
    rw [hx] at hr
    obtain ⟨e1,env1,σ1⟩:=r1
    cases e1 with
    | norm =>
     simp only [Option.some.injEq] at hr
     subst hr
     exact H5 hcalls (Ba hc) hm (keep:=keep) hi he hs (by rw [AB hl']; exact hx) fun e a' w' κ' hp hd=>hQ e a' w' κ' hp fun _=>hd
    | exit id=>simp at hr
    | ret=>simp at hr
    | pan v =>
     simp only at hr
     split at hr
     ·rename_i hdr
      have hlo:sS (EN (Region.before ops)) (mkL ix xs)=true:=by rcases hl with h|h; (exfalso; omega); exact h.2
      simp only [Option.some.injEq] at hr
      subst hr
      refine LM hcalls (Ba hc) hm hi he hs hlo (by rw [AB hl']; exact hx) fun e a' w' κ' hp hd=>?_
      rw [AB hl'] at hp
      exact hQ e a' w' κ' hp fun _=>hd
     ·cases hr
  | none =>
  obtain ⟨id,ops,rfl,hc⟩:∃ id ops,c=.region id ops false∧jH P nt ops (List.range ops.size) xs=true:=by
   cases c<;>first|(simp [dv] at hc; done)|skip
   rename_i id ops d'
   cases d'<;>first|(simp [dv] at hc; done)|skip
   exact ⟨id,ops,rfl,by simpa only [dv] using hc⟩
  simp only [evC] at hr
  refine wpIn_region ?_
  cases hx:bD calls bars xs env σ with
  | none=>rw [hx] at hr; simp at hr
  | some r1 =>
   rw [hx] at hr
   refine DR hcalls _ _ hc hi he hs hx fun e a1 w1 κ1 hp hd=>?_
   obtain ⟨e1,env1,σ1⟩:=r1
   cases e1 with
   | norm =>
    cases hr
    obtain ⟨rfl,he1⟩:=hp.ex
    exact hQ _ _ _ κ1 ⟨hp.inv,hp.kept,hp.len,hp.size,hp.defers,rfl,he1.restrict keep⟩ (fun _=>hd)
   | exit id =>
    cases hr
    exact hQ _ _ _ κ1 hp (fun _=>hd)
   | ret =>
    cases hr
    exact hQ _ _ _ κ1 hp (fun _=>hd)
   | pan v =>
    cases hr
    exact hQ _ _ _ κ1 hp (fun _=>hd)
 | ps l x ih =>
  intro c hc hro bars env σ r κ a w Q hi he hs hr hQ
  have hc':dv P nt x c=true:=by cases c<;>simpa [dv] using hc
  simp only [evC] at hr
  split at hr
  ·rename_i env1 σ1 hps
   obtain ⟨κ1,g1,g2,g3,g4⟩:=hJ l hi he hps
   exact ih c hc' (fun h=>by have h:=hro h; simpa [iZ] using h) g1 g2 hs hr fun e a' w' κ' hp hd=>hQ e a' w' κ' (hp.trans g3 g4 rfl .refl) hd
  ·cases hr
 | psa x l ih =>
  intro c hc hro bars env σ r κ a w Q hi he hs hr hQ
  have hc':dv P nt x c=true:=by cases c<;>simpa [dv] using hc
  simp only [evC] at hr
  cases hx:evC calls (fun s x=>dB s n x) bars x env σ with
  | none=>rw [hx] at hr; cases hr
  | some r1 =>
   rw [hx] at hr
   refine ih c hc' (fun h=>by have h:=hro h; simpa [iZ] using h) hi he hs hx fun e a1 w1 κ1 hp hd=>?_
   obtain ⟨e1,env1,σ1⟩:=r1
   cases e1 with
   | norm =>
    obtain ⟨rfl,he1⟩:=hp.ex
    simp only at hr
    split at hr
    ·rename_i env2 σ2 hps
     cases hr
     obtain ⟨κ2,g1,g2,g3,g4⟩:=hJ l hp.inv he1 hps
     have hp2:Post bars κ1 σ1 w1 a1 (.norm,env2,σ2) .normal a1 w1 κ2:=⟨g1,g3,g4,rfl,.refl,rfl,g2⟩
     exact hQ _ _ _ κ2 (hp2.trans hp.kept hp.len hp.size hp.defers) hd
    ·cases hr
   | exit id =>
    cases hr
    obtain ⟨rfl,he1⟩:=hp.ex
    exact hQ _ _ _ κ1 hp hd
   | ret =>
    cases hr
    obtain ⟨rfl,he1⟩:=hp.ex
    exact hQ _ _ _ κ1 hp hd
   | pan v =>
    cases hr
    obtain ⟨y,rfl,he1⟩:=hp.ex
    exact hQ _ _ _ κ1 hp hd
 | cond x y z ihy ihz =>
  intro c hc hro bars env σ r κ a w Q hi he hs hr hQ
  cases c<;>simp [dv] at hc
  simp only [evC] at hr
  split at hr
  ·rename_i hx
   have hb:=(aA he hc.1.1 hx).1
   simp only [RelV] at hb
   exact wpIn_cond_true hb (ihy _ hc.1.2 (fun h=>by have h:=hro h; simp [iZ] at h; exact h.1) hi he hs hr hQ)
  ·rename_i hx
   have hb:=(aA he hc.1.1 hx).1
   simp only [RelV] at hb
   exact wpIn_cond_false hb (ihz _ hc.2 (fun h=>by have h:=hro h; simp [iZ] at h; exact h.2) hi he hs hr hQ)
  ·cases hr
 | block id x ih =>
  intro c hc hro bars env σ r κ a w Q hi he hs hr hQ
  cases c<;>simp [dv] at hc
  rename_i j c
  obtain ⟨rfl,hc⟩:=hc
  simp only [evC] at hr
  refine wpIn_block ?_
  cases hx:evC calls (fun s x=>dB s n x) bars x env σ with
  | none=>rw [hx] at hr; cases hr
  | some r1 =>
   rw [hx] at hr
   refine ih c hc (fun h=>by have h:=hro h; simpa [iZ] using h) hi he hs hx fun e a1 w1 κ1 hp hd=>?_
   obtain ⟨e1,env1,σ1⟩:=r1
   cases e1 with
   | norm =>
    cases hr
    obtain ⟨rfl,he1⟩:=hp.ex
    exact hQ _ _ _ κ1 hp hd
   | exit k =>
    obtain ⟨rfl,he1⟩:=hp.ex
    simp only at hr
    by_cases hk:k=id
    ·rw [if_pos hk] at hr
     cases hr
     simp only [Exit.inBlock,if_pos hk]
     exact hQ _ _ _ κ1 ⟨hp.inv,hp.kept,hp.len,hp.size,hp.defers,rfl,he1⟩ hd
    ·rw [if_neg hk] at hr
     cases hr
     simp only [Exit.inBlock,if_neg hk]
     exact hQ _ _ _ κ1 hp hd
   | ret =>
    cases hr
    obtain ⟨rfl,he1⟩:=hp.ex
    exact hQ _ _ _ κ1 hp hd
   | pan v =>
    cases hr
    obtain ⟨y,rfl,he1⟩:=hp.ex
    exact hQ _ _ _ κ1 hp hd
 | loop x ih =>
  intro c hc hro bars env σ r κ a w Q hi he hs hr hQ
  cases c<;>simp [dv] at hc
  rename_i c
  simp only [evC] at hr
  refine wpIn_loop_rounds n ?_
  have key:∀ (m:Nat) {env:Env} {σ:Sto} {κ:Kn} {a:Act} {w:World} {Q:Exit→Act→World→Prop},INV bars κ σ w→ENV κ σ.length env a.tmps→a.tmps.size=nt→dB (fun x'=>evC calls (fun s x=>dB s n x) bars x x'.1 x'.2) m (env,σ)=some r →
    (∀ e a' w' κ',Post bars κ σ w a r e a' w' κ'→(nr=true→a'.defers=a.defers)→Q e a' w')→Code.roundsIn (FW ro) 0 P c Q m a w:=by
   intro m
   induction m with
   | zero=>intro env σ κ a w Q hi he hs hr hQ; cases hr
   | succ m ihm =>
    intro env σ κ a w Q hi he hs hr hQ
    simp only [dB] at hr
    rw [roundsIn_succ]
    cases hx:evC calls (fun s x=>dB s n x) bars x env σ with
    | none=>rw [hx] at hr; cases hr
    | some r1 =>
     rw [hx] at hr
     refine ih c hc (fun h=>by have h:=hro h; simpa [iZ] using h) hi he hs hx fun e a1 w1 κ1 hp hd=>?_
     obtain ⟨e1,env1,σ1⟩:=r1
     cases e1 with
     | norm =>
      obtain ⟨rfl,he1⟩:=hp.ex
      exact ihm hp.inv he1 (hp.size.trans hs) hr fun e a' w' κ' hp' hd'=>hQ e a' w' κ' (hp'.trans hp.kept hp.len hp.size hp.defers) fun h=>(hd' h).trans (hd h)
     | exit id =>
      cases hr
      obtain ⟨rfl,he1⟩:=hp.ex
      exact hQ _ _ _ κ1 hp hd
     | ret =>
      cases hr
      obtain ⟨rfl,he1⟩:=hp.ex
      exact hQ _ _ _ κ1 hp hd
     | pan v =>
      cases hr
      obtain ⟨y,rfl,he1⟩:=hp.ex
      exact hQ _ _ _ κ1 hp hd
  exact key n hi he hs hr hQ
 | cut x keep ih =>
  intro c hc hro bars env σ r κ a w Q hi he hs hr hQ
  have hc':dv P nt x c=true:=by cases c<;>simpa [dv] using hc
  have hbl:∀ m∈bars,m≤σ.length:=fun m hm=>(hi.wfb m hm).1
  simp only [evC] at hr
  cases hx:evC calls (fun s x=>dB s n x) (σ.length::bars) x env σ with
  | none=>rw [hx] at hr; cases hr
  | some r1 =>
   rw [hx] at hr
   refine ih c hc' (fun h=>by have h:=hro h; simpa [iZ] using h) hi.bar he hs hx fun e a1 w1 κ1 hp hd=>?_
   obtain ⟨e1,env1,σ1⟩:=r1
   have hcut:∀ env2,ENV κ1 σ1.length env2 a1.tmps→dA σ.length env2=true→ENV κ1 (σ1.take σ.length).length env2 a1.tmps:=by
    intro env2 h1 h2
    have hl:(σ1.take σ.length).length=σ.length:=by have:=hp.len; simp at this ⊢; omega
    rw [hl]
    exact ⟨h1.rel,vt h2,h1.lt⟩
   have hlen:σ.length≤(σ1.take σ.length).length:=by have:=hp.len; simp at this ⊢; omega
   cases e1 with
   | norm =>
    obtain ⟨rfl,he1⟩:=hp.ex
    simp only at hr
    split at hr
    ·rename_i hb
     cases hr
     exact hQ _ _ _ κ1 ⟨hp.inv.take hbl,hp.kept.take,hlen,hp.size,hp.defers.sto fun _ _ h=>sj h,rfl,hcut _ (he1.restrict keep) hb⟩ hd
    ·cases hr
   | exit id =>
    obtain ⟨rfl,he1⟩:=hp.ex
    simp only at hr
    split at hr
    ·rename_i hb
     cases hr
     exact hQ _ _ _ κ1 ⟨hp.inv.take hbl,hp.kept.take,hlen,hp.size,hp.defers.sto fun _ _ h=>sj h,rfl,hcut _ he1 hb⟩ hd
    ·cases hr
     exact hQ _ _ _ κ1 ⟨hp.inv.drop,hp.kept,hp.len,hp.size,hp.defers,rfl,he1⟩ hd
   | ret =>
    obtain ⟨rfl,he1⟩:=hp.ex
    simp only at hr
    split at hr
    ·rename_i hb
     cases hr
     exact hQ _ _ _ κ1 ⟨hp.inv.take hbl,hp.kept.take,hlen,hp.size,hp.defers.sto fun _ _ h=>sj h,rfl,hcut _ he1 hb⟩ hd
    ·cases hr
     exact hQ _ _ _ κ1 ⟨hp.inv.drop,hp.kept,hp.len,hp.size,hp.defers,rfl,he1⟩ hd
   | pan v =>
    cases hr
    obtain ⟨y,rfl,he1⟩:=hp.ex
    exact hQ _ _ _ κ1 ⟨hp.inv.drop,hp.kept,hp.len,hp.size,hp.defers,y,rfl,he1⟩ hd
 | rfunc x ps keep asg bd _ _ =>
  intro c hc hro bars env σ r κ a w Q hi he hs hr hQ
  have hro':ro=none:=by
   rcases hrn with h|h
   ·exact h
   ·have:=hro h; simp [iZ] at this
  have hnr:¬ nr=true:=fun h=>by have:=hro h; simp [iZ] at this
  subst hro'
  cases c<;>simp [dv] at hc
  rename_i y qs asg' bd'
  obtain ⟨⟨⟨⟨⟨⟨hxy,rfl⟩,hlt⟩,ha⟩,hb⟩,hna⟩,hnb⟩:=hc
  exact LP hK hcalls hxy (by simpa using hlt) ha hb hna hnb hi he hs hr fun e a' w' κ' hp=>hQ e a' w' κ' hp fun h=>absurd h hnr
 | dfr =>
  intro c hc hro bars env σ r κ a w Q hi he hs hr hQ
  cases hr
 | stuck =>
  intro c hc hro bars env σ r κ a w Q hi he hs hr hQ
  cases hr
 | exit id keep =>
  intro c hc hro bars env σ r κ a w Q hi he hs hr hQ
  cases c<;>simp [dv] at hc
  subst hc
  simp only [evC,Option.some.injEq] at hr
  subst hr
  exact wpIn_exit (hQ _ _ _ κ ⟨hi,Kept.refl _ _ _ _,Nat.le_refl _,rfl,.refl,rfl,he.restrict keep⟩ fun _=>rfl)
 | ret keep =>
  intro c hc hro bars env σ r κ a w Q hi he hs hr hQ
  cases c<;>simp [dv] at hc
  simp only [evC,Option.some.injEq] at hr
  subst hr
  exact wpIn_ret (hQ _ _ _ κ ⟨hi,Kept.refl _ _ _ _,Nat.le_refl _,rfl,.refl,rfl,he.restrict keep⟩ fun _=>rfl)
end
end Go.Ev

namespace Go.Ev
variable [CodeRel]
def pc (P:Program):List ResV→List ResultVar→Bool
 | [],[]=>true
 | .t s::r,.tmp t::q=>s == t && pc P r q
 | .cell s n::r,.cell x t::q=>s == x && xD P t (n.getD 1) && wt P t n.isSome && pc P r q
 | _,_=>false
def EO (f:Tgt) (args:List Opd) (c:Call):Bool :=
 match f,c.callee,c.args.toList with
 | .f n,.value (.func g),args'=>n == g && decide (n<YB) && sf args args'
 | .v x,.value y,args'=>aJ x y && sf args args'
 | _,_,_=>false
def tv (P:Program) (nt:Nat):IC→Code→Bool
 | .seq a b,.seq c d=>dv P nt a c && tv P nt b d
 | .dfr pre _ f args rest,.seq (.region _ ops false) d =>
   ops.size == pre.length+1 && jH P nt ops (List.range pre.length) pre &&
    (match ops[pre.length]? with
     | some o=>o.dst.isNone && o.guard.isNone && (match o.op with|.defer c=>EO f args c|_=>false)
     | none=>false) && tv P nt rest d
 | c,d=>dv P nt c d
def LQ (nt:Nat) (x:IOper) (o:Oper):Bool :=
 Ev.OE nt x.dst o.dst && o.guard.isNone && (match o.op with|.call c=>(match c.callee with|.builtin .recover=>c.args.isEmpty|_=>false)|_=>false)
def sU (P:Program) (nt:Nat) (ops:Array Oper):List Nat→List IOper→Bool
 | [],[]=>true
 | k::l,x::xs=>(match ops[k]? with
  | some o=>(match x with
   | ⟨d,.recover,none⟩=>LQ nt x o
   | x=>qX P nt ops x o)
  | none=>false) && sU P nt ops l xs
 | _,_=>false
def vd (P:Program) (nt:Nat):IC→Code→Bool
 | .seq a b,.seq c d=>vd P nt a c && vd P nt b d
 | .cond x a b,.cond y c d=>aJ x y && vd P nt a c && vd P nt b d
 | .reg none xs keep,.region id ops false=>if xB xs then sU P nt ops (List.range ops.size) xs else dv P nt (.reg none xs keep) (.region id ops false)
 | c,d=>dv P nt c d && iZ c
def EP:Code→Code
 | .scope c=>c
 | c=>c
def nG (P:Program) (f:FuncId) (fn:IF):Bool:=decide (f<YB) && match P.funcs[f]? with
 | some F=>match F.body with
  | some c => decide (fn.np ≤ F.ntmps) && !(F.name == "runtime.NumGoroutine") && pc P fn.res F.results.toList && (if fn.mode = 2 then tv P F.ntmps fn.body c else if fn.mode = 3 then vd P F.ntmps fn.body c else dv P F.ntmps fn.body (EP c))
  | none=>false
 | none=>false
section
variable {P:Program}
def Gm (tmps:Array Value):ResultVar→Sem Value
 | .tmp t=>pure (tmps.getD t undef)
 | .cell a t=>do loadVar t (← asAddr (tmps.getD a undef))
theorem Bb {bars:List Nat} {κ:Kn} {σ:Sto} {w:World} {env:Env} {tmps:Array Value} (hi:INV bars κ σ w) (he:ENV κ σ.length env tmps):∀ {rs:List ResV} {qs:List ResultVar} {vs:List PV},pc P rs qs=true→jC env σ rs=some vs →
  ∃ us:List Value,(qs.mapM (Gm tmps)).run P w=.ok us w∧RelL κ vs us∧below.belowAll σ.length vs=true
 | [],[],vs,_,h=>by
  simp only [jC,Option.some.injEq] at h
  subst h
  exact ⟨[],by simp,rfl,rfl⟩
 | [],_::_,_,h,_=>by simp [pc] at h
 | .t s::r,[],_,h,_=>by simp [pc] at h
 | .cell s n::r,[],_,h,_=>by simp [pc] at h
 | .t s::r,.cell _ _::_,_,h,_=>by simp [pc] at h
 | .cell s n::r,.tmp _::_,_,h,_=>by simp [pc] at h
 | .t s::r,.tmp t::q,vs,hc,h=>by
  simp only [pc,Bool.and_eq_true,beq_iff_eq] at hc
  obtain ⟨rfl,hc⟩:=hc
  simp only [jC,Ep,Option.bind_eq_some_iff,Option.some.injEq] at h
  obtain ⟨v,hv,vs',hvs,rfl⟩:=h
  obtain ⟨us,h1,h2,h3⟩:=Bb hi he hc hvs
  refine ⟨tmps.getD s undef::us,?_,⟨_,us,rfl,he.rel s v hv,h2⟩,by simp [below.belowAll,he.wf s v hv,h3]⟩
  simp [List.mapM_cons,Gm,h1]
 | .cell s n::r,.cell x t::q,vs,hc,h=>by
  simp only [pc,Bool.and_eq_true,beq_iff_eq] at hc
  obtain ⟨⟨⟨rfl,hsz⟩,hag⟩,hc⟩:=hc
  obtain ⟨i,hti,hs⟩:=g9 hsz
  simp only [jC,Ep,Option.bind_eq_some_iff,Option.some.injEq] at h
  obtain ⟨v,⟨p,hp,hv⟩,vs',hvs,rfl⟩:=h
  obtain ⟨us,h1,h2,h3⟩:=Bb hi he hc hvs
  obtain ⟨ad,cs,us',hx,hf,hlen,hm⟩:=yZ hi (he.rel s p hp) hv
  obtain ⟨u,hu,hrel⟩:=FL (P:=P) hf hm hti hs hag
  refine ⟨u::us,?_,⟨_,us,rfl,hrel,h2⟩,by simp [below.belowAll,y0 hi (he.wf s p hp) hv,h3]⟩
  have hru:(Gm tmps (.cell s t)).run P w=.ok u w:=by
   simp only [Gm,hx]
   simp [asAddr,hu]
  simp [List.mapM_cons,hru,h1]
theorem LR {κ:Kn} {n:Nat} {vs:List PV} {us:List Value} (h:RelL κ vs us) (hb:below.belowAll n vs=true):RelV κ (rG vs) (if h:us.toArray.size=1 then us.toArray[0] else .tuple us.toArray)∧below n (rG vs)=true:=by
 have hl:=h.length
 match vs,us,h with
 | [],us,h =>
  simp only [RelL] at h; subst h
  exact ⟨⟨_,rfl,rfl⟩,rfl⟩
 | [v],us,h =>
  simp only [RelL] at h
  obtain ⟨u,l,rfl,h1,rfl⟩:=h
  simp only [below.belowAll,Bool.and_true] at hb
  exact ⟨h1,hb⟩
 | v::v'::r,us,h =>
  have hl2:us.length=r.length+2:=by simpa using hl.symm
  have:¬ us.toArray.size=1:=by simp; omega
  rw [dif_neg this]
  exact ⟨⟨_,rfl,by simpa using h⟩,hb⟩
theorem t8 {bars:List Nat} {κ:Kn} {σ:Sto} {w:World} {env:Env} {tmps:Array Value} {F:Func} (hi:INV bars κ σ w) (he:ENV κ σ.length env tmps) {rs:List ResV} {vs:List PV} (hc:pc P rs F.results.toList=true) (h:jC env σ rs=some vs) :
  ∃ x,(results F tmps).run P w=.ok x w∧RelV κ (rG vs) x∧below σ.length (rG vs)=true:=by
 obtain ⟨us,h1,h2,h3⟩:=Bb (P:=P) hi he hc h
 obtain ⟨h4,h5⟩:=LR h2 h3
 refine ⟨_,?_,h4,h5⟩
 have hm:results F tmps=(do
   let vs ← F.results.mapM (Gm tmps)
   pure (if h:vs.size=1 then vs[0] else .tuple vs)):=by
  unfold results
  congr 1
 rw [hm,Array.mapM_eq_mapM_toList]
 simp [h1]
theorem LS {args:List PV} {s:Nat} {v:PV}:∀ {i:Nat},bw (ep i args) s=some v→i≤s∧∃ u,args[s - i]? = some u∧v=Ev.norm u:=by
 induction args with
 | nil=>intro i h; simp [ep,bw] at h
 | cons u r ih =>
  intro i h
  simp only [ep,bw] at h
  split at h
  ·rename_i his; subst his; cases h
   exact ⟨Nat.le_refl _,u,by simp,rfl⟩
  ·rename_i his
   obtain ⟨h1,u',h2,h3⟩:=ih h
   refine ⟨by omega,u',?_,h3⟩
   rw [show s - i=(s - (i+1))+1 by omega]; simpa using h2
theorem xP {κ:Kn} {n:Nat} {args:List PV} {xs:Array Value} {np:Nat} {F:Func} (hrel:RelL κ args xs.toList) (hb:below.belowAll n args=true) (hxl:xs.size=np) (hnp:np≤F.ntmps):ENV κ n (ep 0 args) (xs++Array.replicate (F.ntmps - xs.size) undef):=by
 have htsz:(xs++Array.replicate (F.ntmps - xs.size) undef).size=F.ntmps:=by simp; omega
 have g:∀ s v,bw (ep 0 args) s=some v→∃ u x,args[s]? = some u∧xs[s]? = some x∧RelV κ u x∧below n u=true∧v=Ev.norm u:=by
  intro s v hs
  obtain ⟨-,u,h1,h2⟩:=LS hs
  simp only [Nat.sub_zero] at h1
  obtain ⟨x,h3,h4⟩:=RelL.get hrel h1
  exact ⟨u,x,h1,by simpa using h3,h4,bR hb (List.mem_of_getElem? h1),h2⟩
 refine ⟨fun s v hs=>?_,fun s v hs=>?_,fun s v hs=>?_⟩<;>obtain ⟨u,x,h1,h3,h4,h5,rfl⟩:=g s v hs
 ·have hlt:=(Array.getElem?_eq_some_iff.1 h3).1
  rw [Array.getD_eq_getD_getElem?,Array.getElem?_append_left hlt,h3]
  exact RelV.norm u x h4
 ·exact jD u h5
 ·have hlt:=(Array.getElem?_eq_some_iff.1 h3).1
  rw [htsz]; omega
theorem Kb {args:List PV} {s:Nat} {v:PV}:∀ {i:Nat},bw (qU i args) s=some v→i≤s∧∃ u,args[s - i]? = some u∧v=u:=by
 induction args with
 | nil=>intro i h; simp [qU,bw] at h
 | cons u r ih =>
  intro i h
  simp only [qU,bw] at h
  split at h
  ·rename_i his; subst his; cases h
   exact ⟨Nat.le_refl _,_,by simp,rfl⟩
  ·rename_i his
   obtain ⟨h1,u',h2,h3⟩:=ih h
   refine ⟨by omega,u',?_,h3⟩
   rw [show s - i=(s - (i+1))+1 by omega]; simpa using h2
theorem H6 {κ:Kn} {n:Nat} {args:List PV} {xs:Array Value} {np:Nat} {F:Func} (hrel:RelL κ args xs.toList) (hb:below.belowAll n args=true) (hxl:xs.size=np) (hnp:np≤F.ntmps):ENV κ n (qU 0 args) (xs++Array.replicate (F.ntmps - xs.size) undef):=by
 have htsz:(xs++Array.replicate (F.ntmps - xs.size) undef).size=F.ntmps:=by simp; omega
 have g:∀ s v,bw (qU 0 args) s=some v→∃ u x,args[s]? = some u∧xs[s]? = some x∧RelV κ u x∧below n u=true∧v=u:=by
  intro s v hs
  obtain ⟨-,u,h1,h2⟩:=Kb hs
  simp only [Nat.sub_zero] at h1
  obtain ⟨x,h3,h4⟩:=RelL.get hrel h1
  exact ⟨u,x,h1,by simpa using h3,h4,bR hb (List.mem_of_getElem? h1),h2⟩
 refine ⟨fun s v hs=>?_,fun s v hs=>?_,fun s v hs=>?_⟩<;>obtain ⟨u,x,h1,h3,h4,h5,rfl⟩:=g s v hs
 ·have hlt:=(Array.getElem?_eq_some_iff.1 h3).1
  rw [Array.getD_eq_getD_getElem?,Array.getElem?_append_left hlt,h3]
  exact h4
 ·exact h5
 ·have hlt:=(Array.getElem?_eq_some_iff.1 h3).1
  rw [htsz]; omega
theorem H7 {κ:Kn} {n m:Nat} {args:List PV} {xs:Array Value} {np:Nat} {F:Func} (hrel:RelL κ args xs.toList) (hb:below.belowAll n args=true) (hxl:xs.size=np) (hnp:np≤F.ntmps):ENV κ n (gg m args) (xs++Array.replicate (F.ntmps - xs.size) undef):=by
 unfold gg
 split
 ·exact H6 hrel hb hxl hnp
 ·exact xP hrel hb hxl hnp
def Bc (P:Program) (H:gk):Prop:=∀ f h,H f=some h→∀ args σ r,h args σ=some r→eO P f ∧
 ∀ bars κ w (xs:Array Value),INV bars κ σ w→RelL κ args xs.toList→below.belowAll σ.length args=true→Calls P f xs w (jG bars κ σ w r)
theorem INV.shut {bars:List Nat} {κ0 κ:Kn} {σ0 σ:Sto} {n:Nat} {w0 w:World} {D:Nat} {ds:List Deferred} (hi:INV bars κ σ w) (hk:Kept n κ0 σ0 w0 κ σ w) (hD:w.heap[D]? = some (.deferred (some ds))) (hno:∀ i,own κ σ i≠some D) (hge:w0.heap.size≤D) :
  INV bars κ σ (w.putObj D (.deferred none))∧Kept n κ0 σ0 w0 κ σ (w.putObj D (.deferred none)):=by
 have hcell:∀ b o v,w.cell? ⟨b,o,none⟩=some v→b≠D:=by
  rintro b o v h rfl
  simp [World.cell?,hD] at h
 refine ⟨⟨fun i ob hs=>?_,hi.inj,fun b o v hm=>?_,fun b hb=>?_,hi.wf,hi.wfb⟩,⟨hk.ext,by simpa using hk.size,fun b hb hno'=>?_,hk.own,hk.M,hk.os,hk.output,hk.tape⟩⟩
 ·refine obRel.keep (Ext.refl σ.length κ) (List.getElem?_eq_some_iff.1 hs).1 rfl (hi.wf i ob hs) (fun b hb=>⟨World.putObj_heap_other fun e=>?_,fun _=>rfl⟩) (hi.obs i ob hs)
  subst e
  exact hno i (by rw [dx hs]; exact hb)
 ·have h1:=hi.mem b o v hm
  have hne:=hcell b o v h1
  simp only [World.cell?] at h1 ⊢
  rw [World.putObj_heap_other hne]; exact h1
 ·obtain ⟨c,T,fr,h1,h2⟩:=hi.cap b hb
  have hne:b≠D:=by rintro rfl; rw [hD] at h1; cases h1
  exact ⟨c,T,fr,by rw [World.putObj_heap_other hne]; exact h1,h2⟩
 ·rw [World.putObj_heap_other (by omega:b≠D)]; exact hk.keep b hb hno'
theorem mJ {bars:List Nat} {κ0 κ:Kn} {σ0 σ:Sto} {n:Nat} {w0:World} {F:Func} {tmps:Array Value} {R:Ending→World→Prop} {u:FrameMode} (hu:u≠.run) {ds:List Deferred}
  (hQ:∀ w,INV bars κ σ w→Kept n κ0 σ0 w0 κ σ w→LeavesInM (FW none) 0 P F tmps R ds u w) :
  ∀ (Ds:List Nat) (w:World),INV bars κ σ w→Kept n κ0 σ0 w0 κ σ w→Marks κ σ w0 w Ds→LeavesInM (FW none) 0 P F tmps R (Ds.map Gc++ds) u w
 | [],w,hi,hk,_=>hQ w hi hk
 | D::Ds,w,hi,hk,hm=>by
  have hD:=hm.at_ D (by simp)
  obtain ⟨h1,h2⟩:=hi.shut hk hD (hm.no D (by simp)) (hm.ge D (by simp))
  refine ⟨hu,.inl ⟨D,_,rfl,run_takeDeferred hD,mJ hu hQ Ds _ h1 h2 ⟨(List.nodup_cons.1 hm.nd).2,fun E hE=>hm.ge E (by simp [hE]),fun E hE=>?_,fun E hE=>hm.no E (by simp [hE])⟩⟩⟩
  rw [World.putObj_heap_other (fun e=>(List.nodup_cons.1 hm.nd).1 (by rw [← e]; exact hE))]
  exact hm.at_ E (by simp [hE])
theorem zh {κ:Kn} {n:Nat}:∀ {ps:List Nat} {args:List PV} {xs:List Value} {env:Env} {tmps:Array Value},ENV κ n env tmps→(∀ p∈ps,p<tmps.size)→RelL κ args xs→below.belowAll n args=true→args.length=ps.length →
  ENV κ n (lm ps args env) ((ps.zip xs).foldl (fun t (p,v)=>t.setIfInBounds p v) tmps)
 | [],args,xs,env,tmps,he,_,_,_,_=>by cases args<;>simpa [lm] using he
 | p::ps,[],xs,env,tmps,he,_,_,_,h=>by simp at h
 | p::ps,v::args,xs,env,tmps,he,hp,hr,hb,hl=>by
  simp only [RelL] at hr
  obtain ⟨x,l',rfl,h1,h2⟩:=hr
  simp only [below.belowAll,Bool.and_eq_true] at hb
  simp only [lm,List.zip_cons_cons,List.foldl_cons]
  exact zh (he.cons (hp p (by simp)) (RelV.norm _ _ h1) (jD _ hb.1)) (fun q hq=>by simpa using hp q (by simp [hq])) h2 hb.2 (by simpa using hl)
theorem H8 (l:List (Nat×Value)):∀ tmps:Array Value,(l.foldl (fun t (p,v)=>t.setIfInBounds p v) tmps).size=tmps.size:=by
 induction l with
 | nil=>intro tmps; rfl
 | cons p l ih=>intro tmps; simp [ih]
theorem Gn (hK:∀ ic c m,CodeRel.cd ic c m ↔ dv P m ic c=true∧iZ ic=true) {calls:bY} (hcalls:dL P calls) (n:Nat) {bars:List Nat} {l:Nat} {args:List PV} {σ:Sto} {r:Out×Sto} (hr:nM calls (fun s x=>dB s n x) bars l args σ=some r)
  {κ:Kn} {w:World} {xs:Array Value} (hi:INV bars κ σ w) (hrel:RelL κ args xs.toList) (hb:below.belowAll σ.length args=true):κ.gen l=1∧I9 P (κ.ρ l).1 xs w (jG bars κ σ w r):=by
 have hbl:∀ m∈bars,m≤σ.length:=fun m hm=>(hi.wfb m hm).1
 unfold nM at hr
 split at hr
 case h_2=>cases hr
 rename_i env ps asg bd hs
 split at hr
 case isFalse=>cases hr
 rename_i hlen
 obtain ⟨hg,rec,hrec,hps,hst,hpe,henv,hca,hcb,hpl⟩:=hi.obs l _ hs
 have hl:l<σ.length:=(List.getElem?_eq_some_iff.1 hs).1
 obtain ⟨ka,na⟩:=(hK _ _ _).1 hca
 obtain ⟨kb,nb⟩:=(hK _ _ _).1 hcb
 have hxl:xs.size=args.length:=by rw [← Array.length_toList]; exact hrel.length.symm
 refine ⟨hg,rec,hrec,by rw [hxl,hlen,← hps]; simp,?_⟩
 have henv0:ENV κ σ.length env rec.tmps:=⟨fun s v hv=>(henv s v hv).1,fun s v hv=>vK (by simpa [ba] using hi.wf l _ hs) hv,fun s v hv=>(henv s v hv).2⟩
 have hz:(rec.params.zip xs).foldl (fun t (p,v)=>t.setIfInBounds p v) rec.tmps=(ps.zip xs.toList).foldl (fun t (p,v)=>t.setIfInBounds p v) rec.tmps:=by
  rw [← hps,← Array.foldl_toList,Array.toList_zip]
 rw [hz]
 have henv1:=zh henv0 hpl hrel hb hlen
 have htsz:=H8 (ps.zip xs.toList) rec.tmps
 refine roundIn_of_wpIn (F:=Fence.wide) trivial ?_
 cases hx:evC calls (fun s x=>dB s n x) (σ.length::bars) asg (lm ps args env) σ with
 | none=>rw [hx] at hr; cases hr
 | some r1 =>
  rw [hx] at hr
  obtain ⟨e1,env1,σ1⟩:=r1
  refine qc (ro:=some (κ.ρ l).1) (nr:=true) hK hcalls (.inr rfl) n asg _ ka (fun _=>na) (a:={ tmps:=(ps.zip xs.toList).foldl (fun t (p,v)=>t.setIfInBounds p v) rec.tmps,defers:=[] }) hi.bar henv1 htsz hx fun e a1 w1 κ1 hp _=>?_
  cases e1 with
  | exit id=>cases hr
  | ret=>cases hr
  | pan v=>cases hr
  | norm =>
  obtain ⟨rfl,he1⟩:=hp.ex
  simp only at hr he1
  split at hr
  case h_2=>cases hr
  rename_i env2 ps2 a2 b2 hs1
  obtain ⟨r1,k1,k2,k3,k4,k5⟩:=INV.set_loop (st':=1) (pend':=none) hp.inv hs1
  have hρ1:κ1.ρ l=κ.ρ l:=hp.kept.ext.ρ l hl (by rw [k1,hg])
  simp only at k4 k5
  have hst1:r1.state=.ready:=k3.2.1
  have hpe1:r1.pending=none:=k3.2.2.1
  rw [hρ1] at k2 k4 k5
  have hbeg:=run_beginRound (P:=P) k2 hst1
  rw [show ({ r1 with state:=LoopState.busy }:Loop)={ r1 with state:=Et 1,pending:=sd none } by rw [show sd none=r1.pending by rw [hpe1]; rfl]; rfl] at hbeg
  refine ⟨_,hbeg,?_⟩
  have hl1:l<σ1.length:=Nat.lt_of_lt_of_le hl hp.len
  have he1':ENV κ1 (σ1.set l (.loop env2 ps2 a2 b2 1 none)).length env1 a1.tmps:=by rw [List.length_set]; exact he1
  cases hx2:evC calls (fun s x=>dB s n x) (σ.length::bars) bd env1 (σ1.set l (.loop env2 ps2 a2 b2 1 none)) with
  | none=>rw [hx2] at hr; cases hr
  | some r2 =>
  rw [hx2] at hr
  obtain ⟨e2,env3,σ2⟩:=r2
  simp only at hr
  refine qc (ro:=some (κ.ρ l).1) (nr:=true) hK hcalls (.inr rfl) n bd _ kb (fun _=>nb) k4 he1' (hp.size.trans htsz) hx2 fun e a2' w2 κ2 hp2 _=>?_
  split at hr
  case h_2=>cases hr
  rename_i env4 ps4 a4 b4 hs2
  simp only [Option.bind_eq_some_iff,Option.some.injEq] at hr
  obtain ⟨p,hpd,rfl⟩:=hr
  obtain ⟨r2,j1,j2,j3,j4,j5⟩:=INV.set_loop (st':=if p.isNone then 0 else 2) (pend':=p) hp2.inv hs2
  simp only at j4 j5
  have hl2:l<(σ1.set l (.loop env2 ps2 a2 b2 1 none)).length:=by simpa using hl1
  have hρ2:κ2.ρ l=κ.ρ l:=by rw [hp2.kept.ext.ρ l hl2 (by rw [j1,k1]),hρ1]
  rw [hρ2] at j2 j4 j5
  have hlen2:σ.length≤σ2.length:=Nat.le_trans hp.len (by have:=hp2.len; simpa using this)
  have hpost:jG bars κ σ w (.ret (.b p.isNone),(σ2.set l (.loop env4 ps4 a4 b4 (if p.isNone=true then 0 else 2) p)).take σ.length) (.returned (.bool p.isNone))
    (w2.putObj (κ.ρ l).1 (.loop { r2 with state:=Et (if p.isNone=true then 0 else 2),pending:=sd p })):=by
   refine ⟨κ2,j4.take hbl,?_,by simp; omega,_,rfl,rfl,rfl⟩
   refine Kept.take ?_
   exact ((hp.kept.trans k5 hp.len).trans hp2.kept (by simpa using hp.len)).trans j5 hlen2
  have hend:(Instr.endRound (κ.ρ l).1 (sd p)).run P w2=.ok (.bool p.isNone) (w2.putObj (κ.ρ l).1 (.loop { r2 with state:=Et (if p.isNone=true then 0 else 2),pending:=sd p })):=by
   have h:=run_endRound (P:=P) (sd p) j2
   have hn:(sd p).isNone=p.isNone:=by rcases p with _|_|_<;>rfl
   rw [h,hn]
   congr 2
   cases p.isNone<;>rfl
  cases e2 with
  | norm =>
   cases hpd
   obtain ⟨rfl,-⟩:=hp2.ex
   exact ⟨_,_,hend,hpost⟩
  | ret =>
   cases hpd
   obtain ⟨rfl,-⟩:=hp2.ex
   exact ⟨_,_,hend,hpost⟩
  | exit id =>
   cases hpd
   obtain ⟨rfl,-⟩:=hp2.ex
   exact ⟨_,_,hend,hpost⟩
  | pan v=>cases hpd
def ModeOf (κ:Kn) (n:Nat):Option PV→FrameMode→Prop
 | some v,m=>∃ x,m=.panicking [{ v:=x,recovered:=false }]∧RelV κ v x∧below n v=true
 | none,m=>m=.returning∨∃ x,m=.panicking [{ v:=x,recovered:=true }]
theorem ModeOf.mono {κ κ':Kn} {n m:Nat} (he:Ext n κ κ') (hnm:n≤m):∀ {u:Option PV} {md:FrameMode},ModeOf κ n u md→ModeOf κ' m u md
 | some v,md,⟨x,h1,h2,h3⟩=>⟨x,h1,RelV.mono he v x h3 h2,bk hnm v h3⟩
 | none,md,h=>h
theorem Qu {bars:List Nat} {o:IOper} {env env':Env} {σ σ':Sto} (h:opV bars o env σ=some (env',σ')) (calls:bY):cL calls bars o env σ=some (.norm,env',σ'):=by
 unfold opV at h
 unfold cL
 split at h
 ·split at h
  ·rename_i hv; rw [hv]; cases h; rfl
  ·cases h
 ·cases h; rfl
 ·cases h
theorem wI {nt:Nat} {ops:Array Oper}:∀ {l:List Nat} {xs:List IOper},jH P nt ops l xs=true→∀ x∈xs,x.op≠.recover
 | [],[],_,x,hx=>by cases hx
 | [],_::_,h,_,_=>by simp [jH] at h
 | _::_,[],h,_,_=>by simp [jH] at h
 | k::l,y::xs,h,x,hx=>by
  simp only [jH,Bool.and_eq_true] at h
  rcases List.mem_cons.1 hx with rfl|hx
  ·intro hr
   have h1:=h.1
   split at h1
   ·rename_i o ho
    simp only [qX,Bool.and_eq_true,hr] at h1
    have h2:=h1.2
    unfold zb at h2
    split at h2<;>first|(cases h2; done)|(simp at *; done)|(rename_i h'; simp [Ax] at h2)
   ·cases h1
  ·exact wI h.2 x hx
theorem Jg {bars:List Nat} {calls:bY}:∀ {xs:List IOper} {u u':Option PV} {env env':Env} {σ σ':Sto},(∀ x∈xs,x.op≠.recover)→vc bars xs u env σ=some (u',env',σ')→u'=u∧bD calls bars xs env σ=some (.norm,env',σ')
 | [],u,u',env,env',σ,σ',_,h=>by
  unfold vc at h
  simp only [Option.some.injEq,Prod.mk.injEq] at h
  obtain ⟨rfl,rfl,rfl⟩:=h
  exact ⟨rfl,rfl⟩
 | o::xs,u,u',env,env',σ,σ',hn,h=>by
  have ho:=hn o (by simp)
  unfold vc at h
  split at h
  ·exact absurd rfl ho
  ·split at h
   ·rename_i e1 s1 hv
    obtain ⟨h1,h2⟩:=Jg (calls:=calls) (fun x hx=>hn x (by simp [hx])) h
    refine ⟨h1,?_⟩
    simp only [bD,Qu hv]
    exact h2
   ·cases h
theorem Jh {ro:Option Nat} {nt:Nat} {calls:bY} (hcalls:dL P calls) {ops:Array Oper} {Q:Exit→Act→World→Prop} {l':List Nat} {bars:List Nat}:∀ (l:List Nat) (xs:List IOper),jH P nt ops l xs=true→∀ {env envF:Env} {σ σF:Sto} {κ:Kn} {a:Act} {w:World},
  INV bars κ σ w→ENV κ σ.length env a.tmps→a.tmps.size=nt→bD calls bars xs env σ=some (.norm,envF,σF) →
  (∀ a' w' κ',INV bars κ' σF w'→Kept σ.length κ σ w κ' σF w'→σ.length≤σF.length→a'.tmps.size=a.tmps.size→a'.defers=a.defers→ENV κ' σF.length envF a'.tmps→wpOpsIn (FW ro) 0 P ops Q l' a' w')→wpOpsIn (FW ro) 0 P ops Q (l++l') a w
 | [],[],_,env,envF,σ,σF,κ,a,w,hi,he,hs,hr,hQ=>by
  simp only [bD,Option.some.injEq,Prod.mk.injEq,true_and] at hr
  obtain ⟨rfl,rfl⟩:=hr
  exact hQ a w κ hi (Kept.refl _ _ _ _) (Nat.le_refl _) rfl rfl he
 | [],_::_,hc,_,_,_,_,_,_,_,_,_,_,_,_=>by simp [jH] at hc
 | _::_,[],hc,_,_,_,_,_,_,_,_,_,_,_,_=>by simp [jH] at hc
 | k::l,x::xs,hc,env,envF,σ,σF,κ,a,w,hi,he,hs,hr,hQ=>by
  simp only [jH,Bool.and_eq_true] at hc
  obtain ⟨hx,hrest⟩:=hc
  split at hx
  ·rename_i o ho
   rw [List.cons_append,wpOpsIn_cons]
   simp only [bD] at hr
   cases h1:cL calls bars x env σ with
   | none=>rw [h1] at hr; cases hr
   | some r1 =>
    rw [h1] at hr
    refine Az hcalls ho hx hi he hs h1 fun e a1 w1 κ1 hp _ hdf=>?_
    rcases Ge h1 with hn|⟨v,hn⟩
    ·obtain ⟨e1,env1,σ1⟩:=r1
     simp only at hn
     subst hn
     obtain ⟨rfl,he1⟩:=hp.ex
     exact Jh hcalls l xs hrest hp.inv he1 (hp.size.trans hs) hr fun a' w' κ' k1 k2 k3 k4 k5 k6=>hQ a' w' κ' k1 (hp.kept.trans k2 hp.len) (Nat.le_trans hp.len k3) (k4.trans hp.size) (k5.trans hdf) k6
    ·obtain ⟨e1,env1,σ1⟩:=r1
     simp only at hn
     subst hn
     cases hr
  ·cases hx
structure PostR (bars:List Nat) (κ:Kn) (σ:Sto) (w:World) (a:Act) (c₀:Frame) (cs:List Frame) (r:Ex×Option PV×Env×Sto) (e:Exit) (a':Act) (cs':List Frame) (w':World) (κ':Kn):Prop where
 inv:INV bars κ' r.2.2.2 w'
 kept:Kept σ.length κ σ w κ' r.2.2.2 w'
 len:σ.length≤r.2.2.2.length
 size:a'.tmps.size=a.tmps.size
 defers:a'.defers=a.defers
 md:∃ m,cs'={ c₀ with mode:=m }::cs∧ModeOf κ' r.2.2.2.length r.2.1 m
 ex:match r.1 with
  | .norm=>e=.normal∧ENV κ' r.2.2.2.length r.2.2.1 a'.tmps
  | .exit id=>e=.exit id
  | .ret=>e=.ret
  | .pan v=>∃ x,e=.panic x
theorem CO {c₀:Frame} {cs:List Frame} {m:FrameMode} {κ:Kn} {n:Nat} {v:PV} (h:ModeOf κ n (some v) m):∃ x,recoverD ({ c₀ with mode:=m }::cs)=some (x,{ c₀ with mode:=.panicking [{ v:=x,recovered:=true }] }::cs)∧RelV κ v x∧below n v=true:=by
 obtain ⟨x,rfl,h1,h2⟩:=h
 exact ⟨x,rfl,h1,h2⟩
theorem CT {c₀:Frame} {cs:List Frame} {m:FrameMode} {κ:Kn} {n:Nat} (h:ModeOf κ n none m):recoverD ({ c₀ with mode:=m }::cs)=none:=by
 rcases h with rfl|⟨x,rfl⟩<;>rfl
theorem qm {nt:Nat} {ops:Array Oper} {bars:List Nat} {Q:Exit→Act→List Frame→World→Prop} {c₀:Frame} {cs:List Frame}:∀ (l:List Nat) (xs:List IOper),sU P nt ops l xs=true→∀ {u u':Option PV} {env env':Env} {σ σ':Sto} {κ:Kn} {a:Act} {w:World} {m:FrameMode},
  INV bars κ σ w→ENV κ σ.length env a.tmps→a.tmps.size=nt→ModeOf κ σ.length u m→vc bars xs u env σ=some (u',env',σ') →
  (∀ a' w' κ' m',INV bars κ' σ' w'→Kept σ.length κ σ w κ' σ' w'→σ.length≤σ'.length→a'.tmps.size=a.tmps.size→a'.defers=a.defers→ENV κ' σ'.length env' a'.tmps→ModeOf κ' σ'.length u' m'→Q .normal a' ({ c₀ with mode:=m' }::cs) w') →
  wpOpsSIn (FW none) 0 P ops Q l a ({ c₀ with mode:=m }::cs) w
 | [],[],_,u,u',env,env',σ,σ',κ,a,w,m,hi,he,hs,hm,hr,hQ=>by
  unfold vc at hr
  simp only [Option.some.injEq,Prod.mk.injEq] at hr
  obtain ⟨rfl,rfl,rfl⟩:=hr
  exact hQ a w κ m hi (Kept.refl _ _ _ _) (Nat.le_refl _) rfl rfl he hm
 | [],_::_,hc,_,_,_,_,_,_,_,_,_,_,_,_,_,_,_,_=>by simp [sU] at hc
 | _::_,[],hc,_,_,_,_,_,_,_,_,_,_,_,_,_,_,_,_=>by simp [sU] at hc
 | k::l,x::xs,hc,u,u',env,env',σ,σ',κ,a,w,m,hi,he,hs,hm,hr,hQ=>by
  simp only [sU,Bool.and_eq_true] at hc
  obtain ⟨hx,hrest⟩:=hc
  split at hx
  case h_2=>cases hx
  rename_i o ho
  unfold wpOpsSIn
  simp only [ho]
  refine ⟨fun _ _=>trivial,?_⟩
  unfold vc at hr
  split at hx
  ·-- recover
   rename_i d
   simp only [LQ,Bool.and_eq_true,Option.isNone_iff_eq_none] at hx
   obtain ⟨⟨hd,hg⟩,hop⟩:=hx
   obtain ⟨hd1,hd2⟩:=xL hd
   have hexec:(execOp a.eval o).run P w=.ok .recover w:=by
    split at hop
    ·rename_i c hoc
     split at hop
     ·rename_i hcal
      have hemp:c.args=#[]:=by simpa using hop
      simp [execOp,hoc,resolve,hcal,hemp,invoke,builtin]
     ·cases hop
    ·cases hop
   rw [if_pos (by unfold Region.wanted; rw [hg]),hexec]
   simp only at hr
   have hlt:∀ d',o.dst=some d'→d'<a.tmps.size:=fun d' h=>by rw [hs]; rw [hd1] at h; exact hd2 d' h
   cases u with
   | some v =>
    obtain ⟨y,h1,h2,h3⟩:=CO (c₀:=c₀) (cs:=cs) hm
    simp only [h1]
    refine qm l xs hrest hi (ENV.put (v:=v) (by rw [hd1] at *; exact he) ?_ h2 h3) ((iY _ _ _).trans hs) (show ModeOf κ σ.length none _ from Or.inr ⟨y,rfl⟩) (by rw [hd1]; exact hr) fun a' w' κ' m' k1 k2 k3 k4 k5 k6 k7=>hQ a' w' κ' m' k1 k2 k3 (k4.trans (iY _ _ _)) (k5.trans (fJ _ _ _)) k6 k7
    exact hlt
   | none =>
    simp only [CT (c₀:=c₀) (cs:=cs) hm]
    refine qm l xs hrest hi (ENV.put (v:=.k .nilIface) he ?_ rfl rfl) ((iY _ _ _).trans hs) hm (by rw [hd1]; exact hr) fun a' w' κ' m' k1 k2 k3 k4 k5 k6 k7=>hQ a' w' κ' m' k1 k2 k3 (k4.trans (iY _ _ _)) (k5.trans (fJ _ _ _)) k6 k7
    exact hlt
  ·-- another operation
   rename_i hnr
   split at hr
   ·exact absurd rfl (hnr _)
   split at hr
   case h_2=>cases hr
   rename_i e1 s1 hv
   simp only [qX,Bool.and_eq_true] at hx
   obtain ⟨⟨hd,hg⟩,hop⟩:=hx
   obtain ⟨hd1,hd2⟩:=xL hd
   have hlt:∀ d',o.dst=some d'→d'<a.tmps.size:=fun d' h=>by rw [hs]; rw [hd1] at h; exact hd2 d' h
   unfold opV at hv
   split at hv
   ·rename_i hw
    rw [if_pos (qY he hg hw)]
    split at hv
    case h_2=>cases hv
    rename_i v σ1 cD
    simp only [Option.some.injEq,Prod.mk.injEq] at hv
    obtain ⟨rfl,rfl⟩:=hv
    obtain ⟨κ1,w1,y,hres,h1,h2,h3,h4,h5⟩:=oR hop hi he cD (by simp)
    have key:wpOpsSIn (FW none) 0 P ops Q l (a.put o.dst y) ({ c₀ with mode:=m }::cs) w1:=by
     refine qm l xs hrest h3 (ENV.put (he.mono h4.ext h5) hlt h1 h2) ((iY _ _ _).trans hs) (hm.mono h4.ext h5) (by rw [hd1]; exact hr) fun a' w' κ' m' k1 k2 k3 k4 k5 k6 k7=>hQ a' w' κ' m' k1 (h4.trans k2 h5) (Nat.le_trans h5 k3) (k4.trans (iY _ _ _)) (k5.trans (fJ _ _ _)) k6 k7
    rcases hres with hres|⟨hres,rfl⟩
    ·rw [hres]; exact key
    ·rw [hres]; exact key
   ·rename_i hw
    simp only [Option.some.injEq,Prod.mk.injEq] at hv
    obtain ⟨rfl,rfl⟩:=hv
    rw [if_neg (by rw [qY he hg hw]; simp)]
    exact qm l xs hrest hi (ENV.put he hlt (iK κ) rfl) ((iY _ _ _).trans hs) hm (by rw [hd1]; exact hr) fun a' w' κ' m' k1 k2 k3 k4 k5 k6 k7=>hQ a' w' κ' m' k1 k2 k3 (k4.trans (iY _ _ _)) (k5.trans (fJ _ _ _)) k6 k7
   ·cases hv
theorem gq {nt:Nat} {ic:IC} {c:Code} (h1:∀ a b,ic≠.seq a b) (h2:∀ x a b,ic≠.cond x a b) (h3:∀ xs k,ic≠.reg none xs k) (h:vd P nt ic c=true):dv P nt ic c=true∧iZ ic=true:=by
 unfold vd at h
 split at h
 ·exact absurd rfl (h1 _ _)
 ·exact absurd rfl (h2 _ _ _)
 ·exact absurd rfl (h3 _ _)
 ·simpa only [Bool.and_eq_true] using h
theorem Kc (hK:∀ ic c m,CodeRel.cd ic c m ↔ dv P m ic c=true∧iZ ic=true) {nt:Nat} {calls:bY} (hcalls:dL P calls) (n:Nat) {c₀:Frame} {cs:List Frame}:∀ (ic:IC) (c:Code),vd P nt ic c=true→∀ {bars:List Nat} {u:Option PV} {env:Env} {σ:Sto} {r:Ex×Option PV×Env×Sto} {κ:Kn} {a:Act} {w:World} {m:FrameMode} {Q:Exit→Act→List Frame→World→Prop},
  INV bars κ σ w→ENV κ σ.length env a.tmps→a.tmps.size=nt→ModeOf κ σ.length u m→evR (evC calls (fun s x=>dB s n x)) bars ic u env σ=some r→(∀ e a' cs' w' κ',PostR bars κ σ w a c₀ cs r e a' cs' w' κ'→Q e a' cs' w')→c.wpSIn (FW none) 0 P Q a ({ c₀ with mode:=m }::cs) w:=by
 intro ic
 have dflt:∀ (ic:IC) (c:Code),dv P nt ic c=true∧iZ ic=true→∀ {bars:List Nat} {u:Option PV} {env:Env} {σ:Sto} {r:Ex×Option PV×Env×Sto} {κ:Kn} {a:Act} {w:World} {m:FrameMode} {Q:Exit→Act→List Frame→World→Prop},
   INV bars κ σ w→ENV κ σ.length env a.tmps→a.tmps.size=nt→ModeOf κ σ.length u m→ws (evC calls (fun s x=>dB s n x)) bars ic u env σ=some r→(∀ e a' cs' w' κ',PostR bars κ σ w a c₀ cs r e a' cs' w' κ'→Q e a' cs' w')→c.wpSIn (FW none) 0 P Q a ({ c₀ with mode:=m }::cs) w:=by
  intro ic c hc bars u env σ r κ a w m Q hi he hs hm hr hQ
  unfold ws at hr
  cases hx:evC calls (fun s x=>dB s n x) bars ic env σ with
  | none=>rw [hx] at hr; cases hr
  | some r1 =>
   rw [hx] at hr
   obtain ⟨e1,env1,σ1⟩:=r1
   cases hr
   refine wpSIn_of_wpIn rfl (qc (ro:=none) (nr:=true) hK hcalls (.inl rfl) n ic c hc.1 (fun _=>hc.2) hi he hs hx fun e a' w' κ' hp hd=>?_)
   refine hQ e a' _ w' κ' ⟨hp.inv,hp.kept,hp.len,hp.size,hd rfl,⟨m,rfl,hm.mono hp.kept.ext hp.len⟩,?_⟩
   have hex:=hp.ex
   cases e1 with
   | norm=>exact hex
   | exit id=>exact hex.1
   | ret=>exact hex.1
   | pan v=>obtain ⟨y,h1,-⟩:=hex; exact ⟨_,h1⟩
 induction ic with
 | seq x y ihx ihy =>
  intro c hc bars u env σ r κ a w m Q hi he hs hm hr hQ
  cases c<;>simp [vd,dv] at hc
  rename_i c d
  simp only [evR] at hr
  refine wpSIn_seq ?_
  cases hx:evR (evC calls (fun s x=>dB s n x)) bars x u env σ with
  | none=>rw [hx] at hr; cases hr
  | some r1 =>
   rw [hx] at hr
   refine ihx c hc.1 hi he hs hm hx fun e a1 cs1 w1 κ1 hp=>?_
   obtain ⟨e1,u1,env1,σ1⟩:=r1
   obtain ⟨m1,rfl,hm1⟩:=hp.md
   cases e1 with
   | norm =>
    obtain ⟨rfl,he1⟩:=hp.ex
    refine ihy d hc.2 hp.inv he1 (hp.size.trans hs) hm1 hr fun e a' cs' w' κ' hp'=>hQ e a' cs' w' κ' ⟨hp'.inv,hp.kept.trans hp'.kept hp.len,Nat.le_trans hp.len hp'.len,hp'.size.trans hp.size,hp'.defers.trans hp.defers,hp'.md,hp'.ex⟩
   | exit id=>cases hr; have:=hp.ex; subst this; exact hQ _ _ _ _ κ1 hp
   | ret=>cases hr; have:=hp.ex; subst this; exact hQ _ _ _ _ κ1 hp
   | pan v=>cases hr; obtain ⟨y,rfl⟩:=hp.ex; exact hQ _ _ _ _ κ1 hp
 | cond x y z ihy ihz =>
  intro c hc bars u env σ r κ a w m Q hi he hs hm hr hQ
  cases c<;>simp [vd,dv] at hc
  simp only [evR] at hr
  split at hr
  ·rename_i hx
   have hb:=(aA he hc.1.1 hx).1
   simp only [RelV] at hb
   exact wpSIn_cond hb (ihy _ hc.1.2 hi he hs hm hr hQ)
  ·rename_i hx
   have hb:=(aA he hc.1.1 hx).1
   simp only [RelV] at hb
   exact wpSIn_cond hb (ihz _ hc.2 hi he hs hm hr hQ)
  ·cases hr
 | reg d xs keep =>
  intro c hc bars u env σ r κ a w m Q hi he hs hm hr hQ
  cases d with
  | some ix =>
   have hc':=gq (P:=P) (nt:=nt) (ic:=.reg (some ix) xs keep) (c:=c) (by simp) (by simp) (by simp) hc
   exact dflt _ c hc' hi he hs hm hr hQ
  | none =>
   by_cases hh:xB xs=true
   ·simp only [evR,if_pos hh] at hr
    obtain ⟨id,ops,rfl,hcr⟩:∃ id ops,c=.region id ops false∧sU P nt ops (List.range ops.size) xs=true:=by
     cases c<;>first|(simp [vd,dv] at hc; done)|skip
     rename_i id ops d'
     cases d'<;>first|(simp [vd,dv] at hc; done)|skip
     unfold vd at hc
     rw [if_pos hh] at hc
     exact ⟨id,ops,rfl,hc⟩
    split at hr
    ·rename_i u1 env1 σ1 hops
     cases hr
     refine wpSIn_region (qm _ _ hcr hi he hs hm hops fun a' w' κ' m' k1 k2 k3 k4 k5 k6 k7=>hQ .normal a' _ w' κ' ⟨k1,k2,k3,k4,k5,⟨m',rfl,k7⟩,rfl,k6.restrict keep⟩)
    ·cases hr
   ·simp only [evR,if_neg hh] at hr
    have hc':dv P nt (.reg none xs keep) c=true:=by
     cases c<;>first|(simp [vd,dv] at hc; done)|skip
     rename_i id ops d'
     cases d' with
     | true=>simp [vd,dv] at hc
     | false =>
      unfold vd at hc
      rw [if_neg hh] at hc
      exact hc
    exact dflt _ c ⟨hc',rfl⟩ hi he hs hm hr hQ
 | skip  => exact fun c hc bars u env σ r κ a w m Q hi he hs hm hr hQ=>dflt .skip c (gq (by simp) (by simp) (by simp) hc) hi he hs hm hr hQ
 | stuck  => exact fun c hc bars u env σ r κ a w m Q hi he hs hm hr hQ=>dflt .stuck c (gq (by simp) (by simp) (by simp) hc) hi he hs hm hr hQ
 | psa x l _=>exact fun c hc bars u env σ r κ a w m Q hi he hs hm hr hQ=>dflt (.psa x l) c (gq (by simp) (by simp) (by simp) hc) hi he hs hm hr hQ
 | ps l x _=>exact fun c hc bars u env σ r κ a w m Q hi he hs hm hr hQ=>dflt (.ps l x) c (gq (by simp) (by simp) (by simp) hc) hi he hs hm hr hQ
 | block id x _=>exact fun c hc bars u env σ r κ a w m Q hi he hs hm hr hQ=>dflt (.block id x) c (gq (by simp) (by simp) (by simp) hc) hi he hs hm hr hQ
 | loop x _=>exact fun c hc bars u env σ r κ a w m Q hi he hs hm hr hQ=>dflt (.loop x) c (gq (by simp) (by simp) (by simp) hc) hi he hs hm hr hQ
 | cut x keep _=>exact fun c hc bars u env σ r κ a w m Q hi he hs hm hr hQ=>dflt (.cut x keep) c (gq (by simp) (by simp) (by simp) hc) hi he hs hm hr hQ
 | rfunc f ps keep asg bd _ _=>exact fun c hc bars u env σ r κ a w m Q hi he hs hm hr hQ=>dflt (.rfunc f ps keep asg bd) c (gq (by simp) (by simp) (by simp) hc) hi he hs hm hr hQ
 | dfr pre keep f args rest _=>exact fun c hc bars u env σ r κ a w m Q hi he hs hm hr hQ=>dflt (.dfr pre keep f args rest) c (gq (by simp) (by simp) (by simp) hc) hi he hs hm hr hQ
 | exit id keep=>exact fun c hc bars u env σ r κ a w m Q hi he hs hm hr hQ=>dflt (.exit id keep) c (gq (by simp) (by simp) (by simp) hc) hi he hs hm hr hQ
 | ret keep=>exact fun c hc bars u env σ r κ a w m Q hi he hs hm hr hQ=>dflt (.ret keep) c (gq (by simp) (by simp) (by simp) hc) hi he hs hm hr hQ
theorem H9 {bars:List Nat}:∀ {xs:List IOper} {u u':Option PV} {env env':Env} {σ σ':Sto},vc bars xs u env σ=some (u',env',σ')→u'=u∨u'=none
 | [],u,u',env,env',σ,σ',h=>by
  unfold vc at h
  simp only [Option.some.injEq,Prod.mk.injEq] at h
  exact .inl h.1.symm
 | o::xs,u,u',env,env',σ,σ',h=>by
  unfold vc at h
  split at h
  ·rcases H9 h with h|h<;>exact .inr h
  ·split at h
   ·exact H9 h
   ·cases h
theorem SM {C:sJ}:∀ {c:IC} {bars:List Nat} {u:Option PV} {env:Env} {σ:Sto} {e:Ex} {u':Option PV} {env':Env} {σ':Sto},evR C bars c u env σ=some (e,u',env',σ')→u'=u∨u'=none:=by
 intro c
 have dflt:∀ {c:IC} {bars:List Nat} {u:Option PV} {env:Env} {σ:Sto} {e:Ex} {u':Option PV} {env':Env} {σ':Sto},ws C bars c u env σ=some (e,u',env',σ')→u'=u∨u'=none:=by
  intro c bars u env σ e u' env' σ' h
  unfold ws at h
  split at h
  ·simp only [Option.some.injEq,Prod.mk.injEq] at h; exact .inl h.2.1.symm
  ·cases h
 induction c with
 | seq a b iha ihb =>
  intro bars u env σ e u' env' σ' h
  simp only [evR] at h
  cases ha:evR C bars a u env σ with
  | none=>rw [ha] at h; cases h
  | some y =>
   rw [ha] at h
   obtain ⟨e1,u1,env1,σ1⟩:=y
   have h1:=iha ha
   cases e1 with
   | norm=>rcases ihb h with h2|h2<;>rcases h1 with h1|h1<;>simp_all
   | exit id=>simp only [Option.some.injEq,Prod.mk.injEq] at h; obtain ⟨-,rfl,-⟩:=h; exact h1
   | ret=>simp only [Option.some.injEq,Prod.mk.injEq] at h; obtain ⟨-,rfl,-⟩:=h; exact h1
   | pan v=>simp only [Option.some.injEq,Prod.mk.injEq] at h; obtain ⟨-,rfl,-⟩:=h; exact h1
 | cond c a b iha ihb =>
  intro bars u env σ e u' env' σ' h
  simp only [evR] at h
  split at h
  ·exact iha h
  ·exact ihb h
  ·cases h
 | reg d ops keep =>
  intro bars u env σ e u' env' σ' h
  cases d with
  | some ix=>exact dflt h
  | none =>
   simp only [evR] at h
   split at h
   ·split at h
    ·rename_i ho
     simp only [Option.some.injEq,Prod.mk.injEq] at h
     obtain ⟨-,rfl,-⟩:=h
     exact H9 ho
    ·cases h
   ·exact dflt h
 | _=>exact fun h=>dflt h
theorem fe {nt:Nat} {ic:IC} {c:Code} (h1:∀ a b,ic≠.seq a b) (h2:∀ p k f a r,ic≠.dfr p k f a r) (h:tv P nt ic c=true):dv P nt ic c=true:=by
 unfold tv at h
 split at h
 ·exact absurd rfl (h1 _ _)
 ·exact absurd rfl (h2 _ _ _ _ _)
 ·exact h
theorem Marks.keep {κ κ':Kn} {σ σ':Sto} {n:Nat} {w0 w w':World} {Ds:List Nat} (h:Marks κ σ w0 w Ds) (hk:Kept n κ σ w κ' σ' w') (hs:w0.heap.size≤w.heap.size):Marks κ' σ' w0 w' Ds:=by
 have hlt:∀ D∈Ds,D<w.heap.size:=fun D hD=>(Array.getElem?_eq_some_iff.1 (h.at_ D hD)).1
 refine ⟨h.nd,h.ge,fun D hD=>?_,fun D hD i hi=>?_⟩
 ·rw [hk.keep D (hlt D hD) (h.no D hD)]; exact h.at_ D hD
 ·rcases hk.own i D hi with ⟨j,hj⟩|hge
  ·exact h.no D hD j hj
  ·have:=hlt D hD; omega
theorem Gp {κ:Kn} {σ:Sto} {env:Env} {a:Act} {w:World} {f:Tgt} {args:List Opd} {c:Call} {t:TypeId} {vs cap:List PV} {g:FuncId} (he:ENV κ σ.length env a.tmps) (hc:EO f args c=true) (hv:evs env args=some vs) (ht:Hz env f=some (g,cap)) :
  ∃ xs caps:Array Value,(resolve a.eval c t).run P w=.ok { target:=.fn (.func g) caps,args:=xs } w∧RelL κ (vs++cap) (xs++caps).toList∧below.belowAll σ.length (vs++cap)=true∧g<YB:=by
 unfold EO at hc
 split at hc
 ·rename_i m g' hcal
  simp only [Bool.and_eq_true,beq_iff_eq,decide_eq_true_eq] at hc
  obtain ⟨⟨rfl,hlt⟩,hl⟩:=hc
  simp only [Hz,if_pos hlt,Option.some.injEq,Prod.mk.injEq] at ht
  obtain ⟨rfl,rfl⟩:=ht
  obtain ⟨h1,h2⟩:=mg hl
  obtain ⟨h3,h4⟩:=oQ he h1 h2 hv
  exact ⟨c.args.map a.eval,#[],by simp [resolve,hcal,Deferred.ofValue,Act.eval],by simpa using h3,by simpa using h4,hlt⟩
 ·rename_i x y hcal
  simp only [Bool.and_eq_true] at hc
  obtain ⟨h1,h2⟩:=mg hc.2
  obtain ⟨h3,h4⟩:=oQ he h1 h2 hv
  simp only [Hz] at ht
  split at ht
  ·rename_i m cap' hx
   split at ht
   ·rename_i hlt
    simp only [Option.some.injEq,Prod.mk.injEq] at ht
    obtain ⟨rfl,rfl⟩:=ht
    obtain ⟨⟨us,h5,h6⟩,h7⟩:=aA he hc.1 hx
    refine ⟨c.args.map a.eval,us,by simp [resolve,hcal,Deferred.ofValue,h5],by simpa using RelL.append h3 h6,?_,hlt⟩
    simp only [below] at h7
    simp [cE,h4,h7]
   ·cases ht
  ·cases ht
 ·cases hc
theorem Gq (hK:∀ ic c m,CodeRel.cd ic c m ↔ dv P m ic c=true∧iZ ic=true) {T:FuncId→Option IF} (hT:∀ f fn,T f=some fn→nG P f fn=true) {calls:bY} (hcalls:dL P calls) (n:Nat) {bars:List Nat} {g:FuncId} {args:List PV} {u u':Option PV} {σ σ':Sto}
  (hr:pB T (evC calls (fun s x=>dB s n x)) bars g args u σ=some (u',σ')) {κ:Kn} {w:World} {xs:Array Value} {m:FrameMode} (hi:INV bars κ σ w) (hrel:RelL κ args xs.toList) (hb:below.belowAll σ.length args=true) (hm:ModeOf κ σ.length u m) :
  eO P g∧CallsDIn (FW none) 0 P g xs m w fun e m' w'=>∃ κ' v,e=.returned v∧INV bars κ' σ' w'∧Kept σ.length κ σ w κ' σ' w'∧σ'.length=σ.length∧ModeOf κ' σ'.length u' m':=by
 have hbl:∀ m∈bars,m≤σ.length:=fun m hm=>(hi.wfb m hm).1
 unfold pB at hr
 cases hfn:T g with
 | none=>rw [hfn] at hr; cases hr
 | some fn =>
 rw [hfn] at hr
 simp only at hr
 have hchk:=hT g fn hfn
 unfold nG at hchk
 rw [Bool.and_eq_true] at hchk
 have hchk:=hchk.2
 split at hchk
 case h_2=>cases hchk
 rename_i F hF
 split at hchk
 case h_2=>cases hchk
 rename_i c hbody
 simp only [Bool.and_eq_true,decide_eq_true_eq,Bool.not_eq_true'] at hchk
 obtain ⟨⟨⟨hnp,hname⟩,hres⟩,hcode⟩:=hchk
 split at hr
 case isFalse=>cases hr
 rename_i hcond
 obtain ⟨hmode,hlen,hemp⟩:=hcond
 rw [if_neg (by omega),if_pos hmode] at hcode
 refine ⟨⟨F,hF,by rw [hbody]; rfl,hname⟩,?_⟩
 have hxl:xs.size=fn.np:=by rw [← hlen,← Array.length_toList]; exact hrel.length.symm
 have htsz:(xs++Array.replicate (F.ntmps - xs.size) undef).size=F.ntmps:=by simp; omega
 have henv:=xP (F:=F) hrel hb hxl hnp
 cases hx:evR (evC calls (fun s x=>dB s n x)) (σ.length::bars) fn.body u (ep 0 args) σ with
 | none=>rw [hx] at hr; cases hr
 | some r1 =>
 rw [hx] at hr
 obtain ⟨e1,u1,env1,σ1⟩:=r1
 refine callsDIn_of_wpSIn hF hbody trivial fun c₀ cs hc₀=>?_
 have hc0:({ c₀ with mode:=m }:Frame)=c₀:=by subst hc₀; rfl
 have key:=Kc (c₀:=c₀) (cs:=cs) hK hcalls n fn.body c hcode (u:=u) (m:=m) (Q:=bodyPostS P F c₀ cs fun e m' w'=>∃ κ' v,e=.returned v∧INV bars κ' σ' w'∧Kept σ.length κ σ w κ' σ' w'∧σ'.length=σ.length∧ModeOf κ' σ'.length u' m') (a:={ tmps:=xs++Array.replicate (F.ntmps - xs.size) undef,defers:=[] }) (κ:=κ) (w:=w) hi.bar henv htsz hm hx fun e a' cs' w' κ' hp=>?_
 ·rw [hc0] at key; exact key
 ·obtain ⟨m',rfl,hm'⟩:=hp.md
  have hdef:a'.defers=[]:=hp.defers
  have hlen1:(σ1.take σ.length).length=σ.length:=by have:=hp.len; simp at this ⊢; omega
  have hres0:fn.res=[]:=by simpa using hemp
  have fin:some (u1,σ1.take σ.length)=some (u',σ')→∃ v,(results F a'.tmps).run P w'=.ok v w'∧∃ κ'' v',Ending.returned v=.returned v'∧INV bars κ'' σ' w'∧Kept σ.length κ σ w κ'' σ' w'∧σ'.length=σ.length∧ModeOf κ'' σ'.length u' m':=by
   intro h
   simp only [Option.some.injEq,Prod.mk.injEq] at h
   obtain ⟨rfl,rfl⟩:=h
   obtain ⟨x,h1,-,-⟩:=t8 (P:=P) (F:=F) (tmps:=a'.tmps) (env:=[]) (rs:=[]) (vs:=[]) hp.inv ⟨fun s v h=>by simp [bw] at h,fun s v h=>by simp [bw] at h,fun s v h=>by simp [bw] at h⟩ (by rw [hres0] at hres; exact hres) rfl
   refine ⟨x,h1,κ',x,rfl,hp.inv.take hbl,hp.kept.take,hlen1,?_⟩
   rw [hlen1]
   cases u1 with
   | none=>exact hm'
   | some v =>
    have hu:u=some v:=by rcases SM hx with h|h<;>simp_all
    subst hu
    obtain ⟨y,e1,e2,-⟩:=hm'
    obtain ⟨-,-,-,e3⟩:=hm
    exact ⟨y,e1,e2,e3⟩
  cases e1 with
  | norm =>
   obtain ⟨rfl,-⟩:=hp.ex
   obtain ⟨x,h1,h2⟩:=fin hr
   exact ⟨hdef,m',rfl,x,h1,h2⟩
  | ret =>
   have:=hp.ex
   simp only at this
   subst this
   obtain ⟨x,h1,h2⟩:=fin hr
   exact ⟨hdef,m',rfl,x,h1,h2⟩
  | exit id=>cases hr
  | pan v=>cases hr
theorem Kd (hK:∀ ic c m,CodeRel.cd ic c m ↔ dv P m ic c=true∧iZ ic=true) {T:FuncId→Option IF} (hT:∀ f fn,T f=some fn→nG P f fn=true) {calls:bY} (hcalls:dL P calls) (n:Nat) {nt:Nat} {F:Func} {R:Ending→World→Prop} {bars:List Nat} :
  ∀ (ic:IC) (c:Code),tv P nt ic c=true→∀ {env env':Env} {u:Option PV} {σ σ':Sto} {κ:Kn} {a:Act} {w:World},
  INV bars κ σ w→ENV κ σ.length env a.tmps→a.tmps.size=nt→evD T (evC calls (fun s x=>dB s n x)) bars ic env σ=some (u,env',σ') →
  (∀ tmps' w' κ' m,INV bars κ' σ' w'→Kept σ.length κ σ w κ' σ' w'→σ.length≤σ'.length→ENV κ' σ'.length env' tmps'→tmps'.size=nt→(match u with|none=>m=.returning|some v=>∃ x,m=.panicking [{ v:=x,recovered:=false }]∧RelV κ' v x∧below σ'.length v=true)→LeavesInM (FW none) 0 P F tmps' R a.defers m w') →
  c.wpIn (FW none) 0 P (bodyPostM (FW none) 0 P F R) a w:=by
 intro ic
 have leaf:∀ {r1:Ex×Env×Sto} {env':Env} {u:Option PV} {σ σ':Sto} {κ κ1:Kn} {a a1:Act} {w w1:World} {e:Exit},
   (match (some r1:Option (Ex×Env×Sto)) with
    | some (.norm,env',σ')=>some (none,env',σ')
    | some (.ret,env',σ')=>some (none,env',σ')
    | some (.pan v,env',σ')=>some (some v,env',σ')
    | _=>none)=some (u,env',σ')→a.tmps.size=nt→Post bars κ σ w a r1 e a1 w1 κ1 →
   (∀ tmps' w' κ' m,INV bars κ' σ' w'→Kept σ.length κ σ w κ' σ' w'→σ.length≤σ'.length→ENV κ' σ'.length env' tmps'→tmps'.size=nt→(match u with|none=>m=.returning|some v=>∃ x,m=.panicking [{ v:=x,recovered:=false }]∧RelV κ' v x∧below σ'.length v=true)→LeavesInM (FW none) 0 P F tmps' R a.defers m w') →
   bodyPostM (FW none) 0 P F R e a1 w1:=by
  intro r1 env' u σ σ' κ κ1 a a1 w w1 e hr hs hp hQ
  obtain ⟨e1,env1,σ1⟩:=r1
  obtain ⟨Ds,hdef,hmk⟩:=hp.defers
  have go:∀ m,m≠.run→ENV κ1 σ1.length env1 a1.tmps→(env',σ')=(env1,σ1)→(match u with|none=>m=.returning|some v=>∃ x,m=.panicking [{ v:=x,recovered:=false }]∧RelV κ1 v x∧below σ1.length v=true)→LeavesInM (FW none) 0 P F a1.tmps R a1.defers m w1:=by
   intro m hm he1 heq hu
   simp only [Prod.mk.injEq] at heq
   obtain ⟨rfl,rfl⟩:=heq
   rw [hdef]
   exact mJ (κ0:=κ) (σ0:=σ) (n:=σ.length) (w0:=w) hm (fun w' hinv hkept=>hQ a1.tmps w' κ1 m hinv hkept hp.len he1 (hp.size.trans hs) hu) Ds w1 hp.inv hp.kept hmk
  cases e1 with
  | norm =>
   simp only [Option.some.injEq,Prod.mk.injEq] at hr
   obtain ⟨rfl,rfl,rfl⟩:=hr
   obtain ⟨rfl,he1⟩:=hp.ex
   exact go .returning (by simp) he1 rfl rfl
  | ret =>
   simp only [Option.some.injEq,Prod.mk.injEq] at hr
   obtain ⟨rfl,rfl,rfl⟩:=hr
   obtain ⟨rfl,he1⟩:=hp.ex
   exact go .returning (by simp) he1 rfl rfl
  | exit id=>cases hr
  | pan v =>
   simp only [Option.some.injEq,Prod.mk.injEq] at hr
   obtain ⟨rfl,rfl,rfl⟩:=hr
   obtain ⟨y,rfl,h1,h2,he1⟩:=hp.ex
   exact go (.panicking _) (by simp) he1 rfl ⟨y,rfl,h1,h2⟩
 have dflt:∀ (ic:IC) (c:Code),dv P nt ic c=true→∀ {env env':Env} {u:Option PV} {σ σ':Sto} {κ:Kn} {a:Act} {w:World},
   INV bars κ σ w→ENV κ σ.length env a.tmps→a.tmps.size=nt→AL (evC calls (fun s x=>dB s n x)) bars ic env σ=some (u,env',σ') →
   (∀ tmps' w' κ' m,INV bars κ' σ' w'→Kept σ.length κ σ w κ' σ' w'→σ.length≤σ'.length→ENV κ' σ'.length env' tmps'→tmps'.size=nt→(match u with|none=>m=.returning|some v=>∃ x,m=.panicking [{ v:=x,recovered:=false }]∧RelV κ' v x∧below σ'.length v=true)→LeavesInM (FW none) 0 P F tmps' R a.defers m w') →
   c.wpIn (FW none) 0 P (bodyPostM (FW none) 0 P F R) a w:=by
  intro ic c hc env env' u σ σ' κ a w hi he hs hr hQ
  unfold AL at hr
  cases hx:evC calls (fun s x=>dB s n x) bars ic env σ with
  | none=>rw [hx] at hr; cases hr
  | some r1 =>
   rw [hx] at hr
   exact qc (ro:=none) (nr:=false) hK hcalls (.inl rfl) n ic c hc (fun h=>by cases h) hi he hs hx fun e a1 w1 κ1 hp _=>leaf hr hs hp hQ
 induction ic with
 | seq x y ihx ihy =>
  intro c hc env env' u σ σ' κ a w hi he hs hr hQ
  cases c<;>simp only [tv,dv,Bool.and_eq_true] at hc<;>first|(cases hc; done)|skip
  rename_i c d
  simp only [evD] at hr
  refine wpIn_seq ?_
  cases hx:evC calls (fun s x=>dB s n x) bars x env σ with
  | none=>rw [hx] at hr; cases hr
  | some r1 =>
   rw [hx] at hr
   refine qc (ro:=none) (nr:=false) hK hcalls (.inl rfl) n x c hc.1 (fun h=>by cases h) hi he hs hx fun e a1 w1 κ1 hp _=>?_
   obtain ⟨e1,env1,σ1⟩:=r1
   cases e1 with
   | norm =>
    obtain ⟨rfl,he1⟩:=hp.ex
    obtain ⟨Ds,hdef,hmk⟩:=hp.defers
    refine ihy d hc.2 hp.inv he1 (hp.size.trans hs) hr fun tmps' w' κ' m k1 k2 k3 k4 k5 k6=>?_
    rw [hdef]
    have hmk':=hmk.keep k2 hp.kept.size
    refine mJ (κ0:=κ) (σ0:=σ) (n:=σ.length) (w0:=w) ?_ (fun w'' hinv hkept=>hQ tmps' w'' κ' m hinv hkept (Nat.le_trans hp.len k3) k4 k5 k6) Ds w' k1 (hp.kept.trans k2 hp.len) hmk'
    intro hmr
    subst hmr
    cases u with
    | none=>cases k6
    | some v=>obtain ⟨y,h,-⟩:=k6; cases h
   | exit id=>cases hr
   | ret =>
    have:=leaf (r1:=(.ret,env1,σ1)) (u:=u) (env':=env') (σ':=σ') hr hs hp hQ
    obtain ⟨rfl,-⟩:=hp.ex
    exact this
   | pan v =>
    have:=leaf (r1:=(.pan v,env1,σ1)) (u:=u) (env':=env') (σ':=σ') hr hs hp hQ
    obtain ⟨y,rfl,-⟩:=hp.ex
    exact this
 | dfr pre keep f args rest ih =>
  intro c hc env env' u σ σ' κ a w hi he hs hr hQ
  obtain ⟨id,ops,d,rfl,hsz,hpre,o,ho,hdst,hgd,dc,hop,hdf,hrest⟩:∃ id ops d,c=.seq (.region id ops false) d∧ops.size=pre.length+1∧jH P nt ops (List.range pre.length) pre=true∧∃ o,ops[pre.length]? = some o∧o.dst=none∧o.guard=none∧∃ dc,o.op=.defer dc∧EO f args dc=true∧tv P nt rest d=true:=by
   cases c<;>first|(simp [tv,dv] at hc; done)|skip
   rename_i c d
   cases c<;>first|(simp [tv,dv] at hc; done)|skip
   rename_i id ops dr
   cases dr<;>first|(simp [tv,dv] at hc; done)|skip
   simp only [tv,Bool.and_eq_true,beq_iff_eq] at hc
   obtain ⟨⟨⟨h1,h2⟩,h3⟩,h4⟩:=hc
   split at h3
   ·rename_i o ho
    simp only [Bool.and_eq_true,Option.isNone_iff_eq_none] at h3
    obtain ⟨⟨h5,h6⟩,h7⟩:=h3
    split at h7
    ·rename_i dc hdc
     exact ⟨id,ops,d,rfl,h1,h2,o,ho,h5,h6,dc,hdc,h7,h4⟩
    ·cases h7
   ·cases h3
  simp only [evD] at hr
  split at hr
  case h_2=>cases hr
  rename_i u0 env1 σ1 hops
  split at hr
  case h_2=>cases hr
  rename_i vs g cap hvs htg
  split at hr
  case h_2=>cases hr
  rename_i u2 env2 σ2 hrec
  split at hr
  case h_2=>cases hr
  rename_i u3 σ3 hdc
  simp only [Option.some.injEq,Prod.mk.injEq] at hr
  obtain ⟨rfl,rfl,rfl⟩:=hr
  refine wpIn_seq (wpIn_region ?_)
  have hrange:List.range ops.size=List.range pre.length++[pre.length]:=by rw [hsz,List.range_succ]
  rw [hrange]
  obtain ⟨-,hev⟩:=Jg (calls:=calls) (wI hpre) hops
  refine Jh hcalls _ _ hpre hi he hs hev fun a1 w1 κ1 k1 k2 k3 k4 k5 k6=>?_
  obtain ⟨d1,d2,d3⟩:∃ xs caps:Array Value,(resolve a1.eval dc o.type).run P w1=.ok { target:=.fn (.func g) caps,args:=xs } w1∧RelL κ1 (vs++cap) (xs++caps).toList∧below.belowAll σ1.length (vs++cap)=true∧g<YB :=
   Gp k6 hdf hvs htg
  obtain ⟨d3,d4,d5,d6⟩:=d3
  rw [wpOpsIn_cons]
  unfold wpOpIn
  simp only [ho]
  rw [if_pos (by unfold Region.wanted; rw [hgd])]
  refine ⟨fun _ _=>trivial,?_⟩
  have hsem:((o.semAt (FW none).round a1.eval).run P w1)=.ok (.defer { target:=.fn (.func g) d2,args:=d1 }) w1:=by
   show ((execOp a1.eval o).run P w1)=_
   simp [execOp,hop,Sem.run_bind,d3,Result.andThen]
  rw [hsem]
  rw [Oper.uponIn_defer,hdst]
  show wpOpsIn (FW none) 0 P ops _ [] { a1 with defers:={ target:=.fn (.func g) d2,args:=d1 }::a1.defers } w1
  show Code.wpIn (FW none) 0 P d (bodyPostM (FW none) 0 P F R) { a1 with defers:={ target:=.fn (.func g) d2,args:=d1 }::a1.defers } w1
  refine ih d hrest (a:={ a1 with defers:={ target:=.fn (.func g) d2,args:=d1 }::a1.defers }) k1 (k6.restrict keep) (k4.trans hs) hrec fun tmps' w' κ' m j1 j2 j3 j4 j5 j6=>?_
  have hmode:ModeOf κ' σ2.length u2 m:=by
   cases u2 with
   | none=>exact .inl j6
   | some v=>exact j6
  have hrel':RelL κ' (vs++cap) (d1++d2).toList:=RelL.mono j2.ext _ _ d5 d4
  obtain ⟨hca,hcd⟩:=Gq hK hT hcalls n hdc (xs:=d1++d2) j1 hrel' (br j3 _ d5) hmode
  have hrun:m≠.run:=by
   rintro rfl
   cases u2 with
   | none=>cases j6
   | some v=>obtain ⟨y,h,-⟩:=j6; cases h
  refine ⟨hrun,.inr ⟨(fun h=>by cases h),.func g,d2,g,d1++d2,rfl,?_,fun _ _=>trivial,hcd.mono fun e m' w'' hq=>?_⟩⟩
  ·have:=j7 (w:=w') hca (d1++d2)
   simp [invoke]
   simpa using this
  ·obtain ⟨κ'',v,rfl,i1,i2,i3,i4⟩:=hq
   show LeavesInM (FW none) 0 P F tmps' R a1.defers (settle m') w''
   rw [k5]
   have hkk:=(k2.trans j2 k3).trans i2 (Nat.le_trans k3 j3)
   refine hQ tmps' w'' κ'' (settle m') i1 hkk (by omega) (j4.mono i2.ext (by omega)) j5 ?_
   cases u3 with
   | none=>rcases i4 with rfl|⟨y,rfl⟩<;>rfl
   | some v=>obtain ⟨y,rfl,e1,e2⟩:=i4; exact ⟨y,rfl,e1,e2⟩
 | skip=>exact fun c hc env env' u σ σ' κ a w hi he hs hr hQ=>dflt .skip c (fe (by simp) (by simp) hc) hi he hs hr hQ
 | stuck=>exact fun c hc env env' u σ σ' κ a w hi he hs hr hQ=>dflt .stuck c (fe (by simp) (by simp) hc) hi he hs hr hQ
 | reg d xs keep=>exact fun c hc env env' u σ σ' κ a w hi he hs hr hQ=>dflt (.reg d xs keep) c (fe (by simp) (by simp) hc) hi he hs hr hQ
 | psa x l _=>exact fun c hc env env' u σ σ' κ a w hi he hs hr hQ=>dflt (.psa x l) c (fe (by simp) (by simp) hc) hi he hs hr hQ
 | ps l x _=>exact fun c hc env env' u σ σ' κ a w hi he hs hr hQ=>dflt (.ps l x) c (fe (by simp) (by simp) hc) hi he hs hr hQ
 | cond y x1 x2 _ _=>exact fun c hc env env' u σ σ' κ a w hi he hs hr hQ=>dflt (.cond y x1 x2) c (fe (by simp) (by simp) hc) hi he hs hr hQ
 | block id x _=>exact fun c hc env env' u σ σ' κ a w hi he hs hr hQ=>dflt (.block id x) c (fe (by simp) (by simp) hc) hi he hs hr hQ
 | loop x _=>exact fun c hc env env' u σ σ' κ a w hi he hs hr hQ=>dflt (.loop x) c (fe (by simp) (by simp) hc) hi he hs hr hQ
 | cut x keep _=>exact fun c hc env env' u σ σ' κ a w hi he hs hr hQ=>dflt (.cut x keep) c (fe (by simp) (by simp) hc) hi he hs hr hQ
 | rfunc f ps keep asg bd _ _=>exact fun c hc env env' u σ σ' κ a w hi he hs hr hQ=>dflt (.rfunc f ps keep asg bd) c (fe (by simp) (by simp) hc) hi he hs hr hQ
 | exit id keep=>exact fun c hc env env' u σ σ' κ a w hi he hs hr hQ=>dflt (.exit id keep) c (fe (by simp) (by simp) hc) hi he hs hr hQ
 | ret keep=>exact fun c hc env env' u σ σ' κ a w hi he hs hr hQ=>dflt (.ret keep) c (fe (by simp) (by simp) hc) hi he hs hr hQ
def Qv (Q:Exit→Act→World→Prop):Exit→Act→World→Prop
 | .goto _,_,_=>False
 | e,a,w=>Q e a w
theorem mh {P:Program} {b:Frame} {a:Act} {k:List Item} {cs:List Frame} {w:World} {c:Code}:step P (lone (b.atR a (.code (.scope c)::k)) cs w)=.next (lone (b.atR a (.code c::.inScope c::k)) cs w) :=
 step_lone_go (by simp [stepG,stepG.exec,Frame.atR])
theorem CU {P:Program} {b:Frame} {a:Act} {k:List Item} {cs:List Frame} {w:World} {c:Code}:step P (lone (b.atR a (.inScope c::k)) cs w)=.next (lone (b.atR a k) cs w) :=
 step_lone_go (by simp [stepG,stepG.exec,Frame.atR])
theorem ve {F:Fence} {n:Nat} {P:Program} {Q:Exit→Act→World→Prop} {a:Act} {w:World} {c:Code} (h:c.wpIn F n P (Qv Q) a w):(Code.scope c).wpIn F n P Q a w:=by
 intro b k cs hro hb hr
 have h0:(lone (b.atR a (.code (.scope c)::k)) cs w).fenced P F:=fenced_calm hb hr rfl
 obtain ⟨e,a1,w1,hq,harr⟩:=h b (.inScope c::k) cs hro hb hr
 have hx:∀ id,exitTo id (.inScope c::k)=exitTo id k:=fun id=>by simp [exitTo]
 cases e with
 | normal=>exact ⟨.normal,a1,w1,hq,.head h0 mh (StepsIn.trans harr (.one (fenced_calm hb hr rfl) CU))⟩
 | exit id=>exact ⟨.exit id,a1,w1,hq,fun k' hk=>.head h0 mh (harr.1 k' (by rw [hx]; exact hk)),
   fun hr' hk=>let ⟨k1,h1,h2⟩:=harr.2 hr' (by rw [hx]; exact hk); ⟨k1,h1,.head h0 mh h2⟩⟩
 | goto l=>exact hq.elim
 | ret=>exact ⟨_,a1,w1,hq,.of_steps (.one h0 mh) harr⟩
 | panic ch=>exact ⟨_,a1,w1,hq,.of_steps (.one h0 mh) harr⟩
 | outgrown=>exact ⟨_,a1,w1,hq,.of_steps (.one h0 mh) harr⟩
theorem EQ {F:Fence} {n:Nat} {P:Program} {Q:Exit→Act→World→Prop} {a:Act} {w:World} {c:Code} (h:(EP c).wpIn F n P (Qv Q) a w):c.wpIn F n P Q a w:=by
 have hm:c.wpIn F n P (Qv Q) a w→c.wpIn F n P Q a w:=fun h=>wpIn_mono h fun e a w hq=>by cases e<;>first|exact hq|exact hq.elim
 cases c<;>first|exact hm h|exact ve h
theorem Bd (hK:∀ ic c m,CodeRel.cd ic c m ↔ dv P m ic c=true∧iZ ic=true) {T:FuncId→Option IF} (hT:∀ f fn,T f=some fn→nG P f fn=true) {H:gk} (hH:Bc P H) {calls:bY} (hcalls:dL P calls) (n:Nat):dL P (body T H calls (fun s x=>dB s n x)):=by
 intro bars f args σ r hr
 unfold body at hr
 split at hr
 ·rename_i hy
  refine ⟨fun h=>absurd hy (Nat.not_le.2 h),fun κ w xs hi hrel hb=>⟨fun h=>absurd hy (Nat.not_le.2 h),fun l hl=>?_⟩⟩
  subst hl
  rw [show YB+l - YB=l from Nat.add_sub_cancel_left YB l] at hr
  exact Gn hK hcalls n hr hi hrel hb
 rename_i hy
 have hfy:f<YB:=Nat.lt_of_not_le hy
 have hxx:∀ {κ:Kn} {xs:Array Value} {w:World} {R:Ending→World→Prop},Calls P f xs w R→HV P κ f xs w R:=fun h=>⟨fun _=>h,fun l hl=>absurd (hl ▸ Nat.le_add_right YB l) hy⟩
 cases hHf:H f with
 | some hk =>
  rw [hHf] at hr
  obtain ⟨h1,h2⟩:=hH f hk hHf args σ r hr
  exact ⟨fun _=>h1,fun κ w xs hi hrel hb=>hxx (h2 bars κ w xs hi hrel hb)⟩
 | none =>
 rw [hHf] at hr
 simp only at hr
 cases hfn:T f with
 | none=>rw [hfn] at hr; cases hr
 | some fn =>
 rw [hfn] at hr
 simp only at hr
 have hchk:=hT f fn hfn
 unfold nG at hchk
 rw [Bool.and_eq_true] at hchk
 have hchk:=hchk.2
 split at hchk
 case h_2=>cases hchk
 rename_i F hF
 split at hchk
 case h_2=>cases hchk
 rename_i c hbody
 simp only [Bool.and_eq_true,decide_eq_true_eq,Bool.not_eq_true'] at hchk
 obtain ⟨⟨⟨hnp,hname⟩,hres⟩,hcode⟩:=hchk
 split at hr
 case isFalse=>cases hr
 rename_i hlen
 refine ⟨fun _=>⟨F,hF,by rw [hbody]; rfl,hname⟩,fun κ w xs hi hrel hb=>hxx ?_⟩
 have hxl:xs.size=fn.np:=by rw [← hlen,← Array.length_toList]; exact hrel.length.symm
 have hbl:∀ m∈bars,m≤σ.length:=fun m hm=>(hi.wfb m hm).1
 have htsz:(xs++Array.replicate (F.ntmps - xs.size) undef).size=F.ntmps:=by simp; omega
 have henv:ENV κ σ.length (ep 0 args) (xs++Array.replicate (F.ntmps - xs.size) undef):=xP hrel hb hxl hnp
 by_cases hmode:fn.mode=2
 ·rw [if_pos hmode] at hr hcode
  cases hx:evD T (evC calls (fun s x=>dB s n x)) (σ.length::bars) fn.body (ep 0 args) σ with
  | none=>rw [hx] at hr; cases hr
  | some r1 =>
  rw [hx] at hr
  obtain ⟨u,env1,σ1⟩:=r1
  refine Gb (ro:=none) (n:=0) (callsIn_of_wp_marks hF hbody trivial ?_)
  refine Kd (a:={ tmps:=xs++Array.replicate (F.ntmps - xs.size) undef,defers:=[] }) hK hT hcalls n fn.body c hcode hi.bar henv htsz hx fun tmps' w' κ' m k1 k2 k3 k4 k5 k6=>?_
  have hlen1:(σ1.take σ.length).length=σ.length:=by simp; omega
  cases u with
  | none =>
   simp only at k6
   subst k6
   simp only [AM,Option.bind_eq_some_iff,Option.some.injEq] at hr
   obtain ⟨vs,hvs,p,hp1,rfl⟩:=hr
   obtain ⟨x,h1,h2,h3⟩:=t8 (P:=P) k1 k4 hres hvs
   refine ⟨x,h1,κ',?_⟩
   unfold mF at hp1
   rw [if_neg (by omega),if_neg (by omega),if_neg (by omega)] at hp1
   split at hp1
   ·rename_i hbn
    cases hp1
    exact ⟨k1.take hbl,k2.take,Nat.le_of_eq hlen1.symm,x,rfl,RelV.norm _ _ h2,by rw [hlen1]; exact hbn⟩
   ·cases hp1
  | some v =>
   obtain ⟨y,rfl,hv,hbv⟩:=k6
   simp only [AM] at hr
   split at hr
   ·rename_i hbn
    cases hr
    exact ⟨κ',k1.take hbl,k2.take,Nat.le_of_eq hlen1.symm,y,rfl,hv,by rw [hlen1]; exact hbn⟩
   ·cases hr
 rw [if_neg hmode] at hr hcode
 by_cases hm3:fn.mode=3
 ·rw [if_pos hm3] at hr; cases hr
 rw [if_neg hm3] at hr hcode
 have henv:ENV κ σ.length (gg fn.mode args) (xs++Array.replicate (F.ntmps - xs.size) undef):=H7 hrel hb hxl hnp
 cases hx:evC calls (fun s x=>dB s n x) (σ.length::bars) fn.body (gg fn.mode args) σ with
 | none=>rw [hx] at hr; cases hr
 | some r1 =>
 rw [hx] at hr
 refine Gb (ro:=none) (n:=0) (callsIn_of_wp_marks hF hbody trivial ?_)
 refine EQ ?_
 refine qc (ro:=none) (nr:=false) hK hcalls (.inl rfl) n fn.body (EP c) hcode (fun h=>by cases h) hi.bar henv htsz hx fun e a' w' κ' hp _=>?_
 obtain ⟨e1,env1,σ1⟩:=r1
 obtain ⟨Ds,hdef,hmk⟩:=hp.defers
 simp only [List.append_nil] at hdef
 have hlen1:(σ1.take σ.length).length=σ.length:=by have:=hp.len; simp at this ⊢; omega
 have ret:ENV κ' σ1.length env1 a'.tmps→((jC env1 σ1 fn.res).bind fun vs=>(mF fn.mode σ.length (rG vs) σ1).bind fun p=>some (Out.ret p.1,p.2))=some r →
   LeavesInM (FW none) 0 P F a'.tmps (jG bars κ σ w r) a'.defers .returning w':=by
  intro he1 hr
  rw [hdef,← List.append_nil (Ds.map Gc)]
  refine mJ (κ0:=κ) (σ0:=σ) (n:=σ.length) (w0:=w) (by simp) (fun w' hinv hkept=>?_) Ds w' hp.inv hp.kept hmk
  simp only [Option.bind_eq_some_iff,Option.some.injEq] at hr
  obtain ⟨vs,hvs,p,hp1,rfl⟩:=hr
  obtain ⟨x,h1,h2,h3⟩:=t8 (P:=P) hinv he1 hres hvs
  refine ⟨x,h1,κ',?_⟩
  unfold mF at hp1
  split at hp1
  ·split at hp1
   ·rename_i hbn
    cases hp1
    exact ⟨hinv.take hbl,hkept.take,Nat.le_of_eq hlen1.symm,x,rfl,h2,by rw [hlen1]; exact hbn⟩
   ·cases hp1
  ·split at hp1
   ·cases hp1
    exact ⟨hinv.drop,hkept,hp.len,x,rfl,RelV.norm _ _ h2,jD _ h3⟩
   split at hp1
   ·cases hp1
    exact ⟨hinv.drop,hkept,hp.len,x,rfl,h2,h3⟩
   split at hp1
   ·rename_i hbn
    cases hp1
    exact ⟨hinv.take hbl,hkept.take,Nat.le_of_eq hlen1.symm,x,rfl,RelV.norm _ _ h2,by rw [hlen1]; exact hbn⟩
   ·cases hp1
 cases e1 with
 | norm =>
  obtain ⟨rfl,he1⟩:=hp.ex
  exact ret he1 hr
 | ret =>
  obtain ⟨rfl,he1⟩:=hp.ex
  exact ret he1 hr
 | exit id=>cases hr
 | pan v =>
  obtain ⟨y,rfl,hv,hbv⟩:=hp.ex
  simp only at hr
  split at hr
  ·rename_i hbn
   cases hr
   show LeavesInM (FW none) 0 P F a'.tmps _ a'.defers (.panicking _) w'
   rw [hdef,← List.append_nil (Ds.map Gc)]
   refine mJ (κ0:=κ) (σ0:=σ) (n:=σ.length) (w0:=w) (by simp) (fun w' hinv hkept=>?_) Ds w' hp.inv hp.kept hmk
   exact ⟨κ',hinv.take hbl,hkept.take,Nat.le_of_eq hlen1.symm,y,rfl,hv,by rw [hlen1]; exact hbn⟩
  ·cases hr
end
@[reducible] def CR (P:Program):CodeRel:=⟨fun ic c m=>dv P m ic c=true∧iZ ic=true⟩
end Go.Ev

namespace Go.Ev
variable [CodeRel]
theorem INV.empty {bars:List Nat} {κ:Kn} {σ:Sto} {w:World} (h:INV bars κ σ w):INV [] κ [] w :=
 ⟨fun i ob hs=>by simp at hs,fun i j b hi=>by simp [own] at hi,h.mem,h.cap,fun i ob hs=>by simp at hs,fun n hn=>by cases hn⟩
theorem zi {P:Program} {calls:bY} (hc:dL P calls) {f:FuncId} {args:List PV} {r:Out} (hf:f<YB) (h:calls [] f args []=some (r,[])) (hb:below.belowAll 0 args=true) :
  eO P f∧∀ bars κ σ w (xs:Array Value),INV bars κ σ w→RelL κ args xs.toList→Calls P f xs w (jG bars κ σ w (r,σ)):=by
 obtain ⟨h1,h2⟩:=hc [] f args [] (r,[]) h
 refine ⟨h1 hf,fun bars κ σ w xs hi hr=>?_⟩
 refine ((h2 κ w xs hi.empty hr hb).1 hf).mono fun e w' hp=>?_
 obtain ⟨κ',g1,g2,-,g4⟩:=hp
 simp only at g1 g2 g4
 have hno:∀ (b:Nat) (i:Nat),own κ [] i≠some b:=fun b i hib=>by simp [own] at hib
 let κ'':Kn:={ κ with M:=κ'.M,cap:=κ'.cap }
 have hext:Ext σ.length κ κ'':=⟨fun _ _ _=>rfl,fun _ _=>rfl,fun _ _=>Nat.le_refl _,fun _ _ _=>rfl,g2.ext.M,g2.ext.cap⟩
 have hext0:Ext 0 κ' κ'':=⟨fun _ h=>absurd h (Nat.not_lt_zero _),fun _ h=>absurd h (Nat.not_lt_zero _),fun _ h=>absurd h (Nat.not_lt_zero _),fun _ h=>absurd h (Nat.not_lt_zero _),fun _ _ _ h=>h,fun _=>Nat.le_refl _⟩
 have hM:∀ b,b<w.heap.size→∀ o,κ'.M b o=κ.M b o:=by
  intro b hlt o
  cases hm:κ.M b o with
  | some v=>exact g2.ext.M b o v hm
  | none =>
   cases hm':κ'.M b o with
   | none=>rfl
   | some v =>
    rcases g2.M b o v hm' with h|⟨j,hj⟩|h
    ·rw [hm] at h; cases h
    ·exact absurd hj (hno b j)
    ·omega
 obtain ⟨k1,k2⟩:=INV.more (w':=w') (κ':=κ'') hi hext (fun _ _=>rfl) g2.size (fun b hlt=>g2.keep b hlt (hno b)) hM g1.mem g1.cap g2.os g2.output g2.tape
 refine ⟨κ'',k1,k2,Nat.le_refl _,?_⟩
 cases r with
 | ret v =>
  obtain ⟨x,e1,e2,e3⟩:=g4
  simp only [List.length_nil] at e3
  exact ⟨x,e1,RelV.mono hext0 v x e3 e2,bk (Nat.zero_le _) v e3⟩
 | pan v =>
  obtain ⟨x,e1,e2,e3⟩:=g4
  simp only [List.length_nil] at e3
  exact ⟨x,e1,RelV.mono hext0 v x e3 e2,bk (Nat.zero_le _) v e3⟩
end Go.Ev

namespace Go.Ev
def lV (calls:bY) (bars:List Nat) (f:FuncId) (args:List PV) (σ:Sto):Option (Bool×Out×Sto) :=
 if below.belowAll 0 args && decide (f<YB) then
  match calls [] f args [] with
  | some (r,[])=>some (true,r,σ)
  | some _=>(calls bars f args σ).map fun p=>(false,p)
  | none=>none
 else if below.belowAll 0 (norm.normAll args) && decide (f<YB) then
  match calls [] f (norm.normAll args) [] with
  | some (r,[])=>some (true,r,σ)
  | some _=>(calls bars f args σ).map fun p=>(false,p)
  | none=>none
 else (calls bars f args σ).map fun p=>(false,p)
def xcall (calls:bY):bY:=fun bars f args σ=>(lV calls bars f args σ).map (·.2)
theorem j9 {o:Option (Out×Sto)}:(o.map fun p=>(false,p)).map (·.2)=o:=by cases o<;>rfl
theorem Gr {calls:bY} {bars:List Nat} {f:FuncId} {args:List PV} {σ σ':Sto} {r:Out} (h:lV calls bars f args σ=some (true,r,σ')):σ'=σ:=by
 unfold lV at h
 repeat' split at h
 all_goals first|(cases h; rfl)|(cases h; done)|(cases hc:calls bars f args σ<;>rw [hc] at h<;>cases h)
def vEq:Value→Value→Bool
 | .int k a,.int l b=>decide (k=l) && decide (a=b)
 | .bool a,.bool b=>a == b
 | .string a,.string b=>decide (a=b)
 | .pointer none,.pointer none=>true
 | .slice a b c,.slice d e f=>decide (a=d) && decide (b=e) && decide (c=f)
 | .map none,.map none=>true
 | .nilFunc,.nilFunc=>true
 | .nilIface,.nilIface=>true
 | _,_=>false
theorem LT:∀ {a b:Value},vEq a b=true→a=b:=by
 intro a b h
 unfold vEq at h
 split at h<;>simp_all
mutual
def PV.eqb:PV→PV→Bool
 | .k a,.k b=>vEq a b
 | .ptr a b,.ptr c d=>a == c && b == d
 | .pa a b c d,.pa e f g h=>a == e && b == f && c == g && d == h
 | .pe a b,.pe c d=>xQ a c && b == d
 | .sl a b,.sl c d=>a == c && Gs b d
 | .ow a b c,.ow d e f=>a == d && b == e && Gs c f
 | .rs a b c d,.rs e f g h=>a == e && b == f && c == g && d == h
 | .agg a,.agg b=>xQ a b
 | .tup a,.tup b=>xQ a b
 | .fn f a,.fn g b=>decide (f=g) && xQ a b
 | .yld a,.yld b=>a == b
 | .bm f a,.bm g b=>f == g && xQ a b
 | .map a,.map b=>a == b
 | .iface t a,.iface u b=>t == u && PV.eqb a b
 | _,_=>false
def xQ:List PV→List PV→Bool
 | [],[]=>true
 | a::r,b::s=>PV.eqb a b && xQ r s
 | _,_=>false
def Gs:List (List PV)→List (List PV)→Bool
 | [],[]=>true
 | a::r,b::s=>xQ a b && Gs r s
 | _,_=>false
end
mutual
theorem Ia:∀ (a b:PV),PV.eqb a b=true→a=b
 | .k a,b,h=>by cases b<;>simp [PV.eqb] at h; rw [LT h]
 | .ptr _ _,b,h=>by cases b<;>simp [PV.eqb] at h; simp [h]
 | .pa _ _ _ _,b,h=>by cases b<;>simp [PV.eqb] at h; simp [h]
 | .pe a _,b,h=>by cases b<;>simp [PV.eqb] at h; rw [pJ a _ h.1,h.2]
 | .sl _ a,b,h=>by cases b<;>simp [PV.eqb] at h; rw [AC a _ h.2,h.1]
 | .ow _ _ a,b,h=>by cases b<;>simp [PV.eqb] at h; rw [AC a _ h.2,h.1.1,h.1.2]
 | .rs _ _ _ _,b,h=>by cases b<;>simp [PV.eqb] at h; simp [h]
 | .agg a,b,h=>by cases b<;>simp [PV.eqb] at h; rw [pJ a _ h]
 | .tup a,b,h=>by cases b<;>simp [PV.eqb] at h; rw [pJ a _ h]
 | .fn _ a,b,h=>by cases b<;>simp [PV.eqb] at h; rw [pJ a _ h.2,h.1]
 | .yld _,b,h=>by cases b<;>simp [PV.eqb] at h; simp [h]
 | .bm _ a,b,h=>by cases b<;>simp [PV.eqb] at h; rw [pJ a _ h.2,h.1]
 | .map _,b,h=>by cases b<;>simp [PV.eqb] at h; simp [h]
 | .iface _ a,b,h=>by cases b<;>simp [PV.eqb] at h; rw [Ia a _ h.2,h.1]
theorem pJ:∀ (a b:List PV),xQ a b=true→a=b
 | [],b,h=>by cases b<;>simp [xQ] at h; rfl
 | a::r,b,h=>by
  cases b with
  | nil=>simp [xQ] at h
  | cons c s=>simp [xQ] at h; rw [Ia a c h.1,pJ r s h.2]
theorem AC:∀ (a b:List (List PV)),Gs a b=true→a=b
 | [],b,h=>by cases b<;>simp [Gs] at h; rfl
 | a::r,b,h=>by
  cases b with
  | nil=>simp [Gs] at h
  | cons c s=>simp [Gs] at h; rw [pJ a c h.1,AC r s h.2]
end
def Ke:List (Value×PV)→List (Value×PV)→Bool
 | [],[]=>true
 | a::r,b::s=>vEq a.1 b.1 && PV.eqb a.2 b.2 && Ke r s
 | _,_=>false
theorem Ji:∀ (a b:List (Value×PV)),Ke a b=true→a=b
 | [],b,h=>by cases b<;>simp [Ke] at h; rfl
 | (a1,a2)::r,b,h=>by
  cases b with
  | nil=>simp [Ke] at h
  | cons c s=>obtain ⟨c1,c2⟩:=c; simp [Ke] at h; rw [LT h.1.1,Ia a2 c2 h.1.2,Ji r s h.2]
def OH:Ob→Ob→Bool
 | .var a,.var b=>xQ a b
 | .tok a b,.tok c d=>a == c && b == d
 | .arr a b c,.arr d e f=>a == d && b == e && Gs c f
 | .mp a,.mp b=>Ke a b
 | .dead,.dead=>true
 | _,_=>false
theorem Jj {a b:Ob} (h:OH a b=true):a=b:=by
 unfold OH at h
 split at h
 ·rw [pJ _ _ h]
 ·simp at h; simp [h]
 ·simp at h; rw [AC _ _ h.2,h.1.1,h.1.2]
 ·rw [Ji _ _ h]
 ·rfl
 ·cases h
def Be:Sto→Sto→Bool
 | [],[]=>true
 | a::r,b::s=>OH a b && Be r s
 | _,_=>false
theorem Bf:∀ {a b:Sto},Be a b=true→a=b
 | [],[],_=>rfl
 | [],_::_,h=>by simp [Be] at h
 | _::_,[],h=>by simp [Be] at h
 | a::r,b::s,h=>by simp [Be] at h; rw [Jj h.1,Bf h.2]
def LU:Option Ob→Option Ob→Bool
 | some a,some b=>OH a b
 | none,none=>true
 | _,_=>false
theorem LV {a b:Option Ob} (h:LU a b=true):a=b:=by
 unfold LU at h
 split at h
 ·rw [Jj h]
 ·rfl
 ·cases h
def OI (env:Env) (σ σ':Sto):List Nat→Bool
 | []=>true
 | n::r=>(match bw env n with
  | some v=>(match top v with
   | some id=>LU σ'[id]? σ[id]?
   | none=>true)
  | none=>true) && OI env σ σ' r
theorem DU {env:Env} {σ σ':Sto}:∀ {l:List Nat},OI env σ σ' l=true→∀ n∈l,∀ v id,bw env n=some v→top v=some id→σ'[id]? = σ[id]?
 | [],_,n,hn,_,_,_,_=>by cases hn
 | m::r,h,n,hn,v,id,h1,h2=>by
  simp only [OI,Bool.and_eq_true] at h
  rcases List.mem_cons.1 hn with rfl|hn
  ·rw [h1] at h
   simp only [h2] at h
   exact LV h.1
  ·exact DU h.2 n hn v id h1 h2
def OJ (calls:bY) (bars:List Nat) (o:IOper) (env:Env) (σ:Sto):Option (Ex×Env×Sto) :=
 match dP env o.guard with
 | some true =>
  match opE bars env σ o.op with
  | some (.val v σ')=>some (.norm,d7 env o.dst v,σ')
  | some (.call f args σ') =>
   match lV calls bars f args σ' with
   | some (fl,.ret v,σ'')=>if !fl && ((o.op.quiet && !(Be σ'' σ')) || (o.op.growq && !(Be (σ''.take σ'.length) σ')) || !OI env σ' σ'' o.op.avs) then none else some (.norm,d7 env o.dst v,σ'')
   | some (_,.pan v,σ'')=>some (.pan v,env,σ'')
   | none=>none
  | some (.pan v σ')=>some (.pan v,env,σ')
  | _=>none
 | some false=>some (.norm,d7 env o.dst (.tup []),σ)
 | none=>none
def LW (calls:bY) (bars:List Nat):List IOper→Env→Sto→Option (Ex×Env×Sto)
 | [],env,σ=>some (.norm,env,σ)
 | o::r,env,σ=>match OJ calls bars o env σ with
  | some (.norm,env',σ')=>LW calls bars r env' σ'
  | r=>r
def xC (calls:bY) (it:It):List Nat→IC→Env→Sto→Option (Ex×Env×Sto)
 | _,.skip,env,σ=>some (.norm,env,σ)
 | _,.stuck,_,_=>none
 | bars,.seq a b,env,σ=>match xC calls it bars a env σ with
  | some (.norm,env',σ')=>xC calls it bars b env' σ'
  | r=>r
 | bars,.reg d ops keep,env,σ=>match LW calls bars ops env σ with
  | some (.norm,env',σ')=>some (.norm,restrict keep env',σ')
  | r=>if d.isSome then none else r
 | bars,.ps l c,env,σ=>match psE bars env σ l with
  | some (env',σ')=>xC calls it bars c env' σ'
  | none=>none
 | bars,.psa c l,env,σ=>match xC calls it bars c env σ with
  | some (.norm,env',σ')=>(match psE bars env' σ' l with
   | some (env'',σ'')=>some (.norm,env'',σ'')
   | none=>none)
  | r=>r
 | bars,.cond c a b,env,σ=>match ev env c with
  | some (.k (.bool true))=>xC calls it bars a env σ
  | some (.k (.bool false))=>xC calls it bars b env σ
  | _=>none
 | bars,.block id a,env,σ=>match xC calls it bars a env σ with
  | some (.exit j,env',σ')=>if j=id then some (.norm,env',σ') else some (.exit j,env',σ')
  | r=>r
 | bars,.loop a,env,σ=>it (fun x=>xC calls it bars a x.1 x.2) (env,σ)
 | bars,.cut a keep,env,σ=>match xC calls it (σ.length::bars) a env σ with
  | some (.norm,env',σ')=>if dA σ.length (restrict keep env') then some (.norm,restrict keep env',σ'.take σ.length) else none
  | some (.exit id,env',σ')=>if dA σ.length env' then some (.exit id,env',σ'.take σ.length) else some (.exit id,env',σ')
  | some (.ret,env',σ')=>if dA σ.length env' then some (.ret,env',σ'.take σ.length) else some (.ret,env',σ')
  | r=>r
 | bars,.rfunc f ps keep asg bd,env,σ=>match ev env f with
  | some (.fn (.func g) cap)=>if g<YB then
    match calls bars g (.yld σ.length::cap) (σ++[.loop (restrict keep env) ps asg bd 0 none]) with
    | some (.ret _,σ')=>match σ'[σ.length]? with
     | some (.loop env' ps' a' b' st pend)=>(sc st pend).bind fun e=>some (e,env,σ'.set σ.length (.loop env' ps' a' b' 3 pend))
     | _=>none
    | some (.pan v,σ')=>some (.pan v,env,σ')
    | none=>none
   else none
  | _=>none
 | _,.dfr ..,_,_=>none
 | _,.exit id keep,env,σ=>some (.exit id,restrict keep env,σ)
 | _,.ret keep,env,σ=>some (.ret,restrict keep env,σ)
def Ib (calls:bY) (it:It):bY:=fun bars l args σ =>
 match σ[l]? with
 | some (.loop env ps asg bd 0 none)=>if args.length=ps.length then
   match xC calls it (σ.length::bars) asg (lm ps args env) σ with
   | some (.norm,env1,σ1)=>match σ1[l]? with
    | some (.loop env' ps' a' b' 0 none) =>
     match xC calls it (σ.length::bars) bd env1 (σ1.set l (.loop env' ps' a' b' 1 none)) with
     | some (e,_,σ2)=>match σ2[l]? with
      | some (.loop env' ps' a' b' 1 none)=>(DE e).bind fun p=>some (.ret (.b p.isNone),(σ2.set l (.loop env' ps' a' b' (if p.isNone then 0 else 2) p)).take σ.length)
      | _=>none
     | none=>none
    | _=>none
   | _=>none
  else none
 | _=>none
def LX (T:FuncId→Option IF) (H:gk) (calls:bY) (it:It):bY:=fun bars f args σ =>
 if YB≤f then Ib calls it bars (f - YB) args σ else
 match H f with
 | some h=>h args σ
 | none=>match T f with
  | none=>none
  | some fn=>if args.length=fn.np then
    if fn.mode=2 then AM fn σ.length (evD T (xC calls it) (σ.length::bars) fn.body (ep 0 args) σ) else if fn.mode=3 then none else
    match xC calls it (σ.length::bars) fn.body (gg fn.mode args) σ with
    | some (.norm,env,σ')|some (.ret,env,σ')=>(jC env σ' fn.res).bind fun vs=>(mF fn.mode σ.length (rG vs) σ').bind fun p=>some (.ret p.1,p.2)
    | some (.pan v,_,σ')=>if below σ.length v then some (.pan v,σ'.take σ.length) else none
    | _=>none
   else none
theorem OM {calls:bY} {bars:List Nat} {o:IOper} {env:Env} {σ:Sto} {r:Ex×Env×Sto} (h:OJ calls bars o env σ=some r):cL (xcall calls) bars o env σ=some r:=by
 unfold OJ at h
 unfold cL
 split at h
 ·rename_i hw
  rw [hw]
  simp only
  split at h
  ·rename_i hv; rw [hv]; exact h
  ·rename_i f args σ' hv
   rw [hv]
   simp only
   unfold xcall
   cases hc:lV calls bars f args σ' with
   | none=>rw [hc] at h; cases h
   | some y =>
    rw [hc] at h
    obtain ⟨fl,y1,y2⟩:=y
    simp only [Option.map_some]
    cases y1 with
    | ret v =>
     simp only at h ⊢
     split at h
     ·cases h
     ·rename_i hq
      rw [if_neg]
      ·exact h
      ·cases fl with
       | true =>
        have:=Gr hc
        subst this
        rintro (⟨h1,h2⟩|⟨h1,h2⟩|⟨n,hn,v',id,h1,h2,h3⟩)
        ·exact h2 rfl
        ·exact h2 ⟨[],by simp⟩
        ·exact h3 rfl
       | false =>
        simp only [Bool.not_false,Bool.true_and,Bool.or_eq_true,not_or,Bool.and_eq_true,not_and,Bool.not_eq_true',Bool.not_eq_false] at hq
        rintro (⟨h1,h2⟩|⟨h1,h2⟩|⟨n,hn,v',id,h1,h2,h3⟩)
        ·exact h2 (Bf (hq.1.1 h1))
        ·refine h2 ⟨y2.drop σ'.length,?_⟩
         have h3:=Bf (hq.1.2 h1)
         calc y2=y2.take σ'.length++y2.drop σ'.length:=(List.take_append_drop _ _).symm
          _=σ'++y2.drop σ'.length:=by rw [h3]
        ·exact h3 (DU hq.2 n hn v' id h1 h2)
    | pan v=>exact h
  ·rename_i hv; rw [hv]; exact h
  ·cases h
 ·rename_i hw; rw [hw]; exact h
 ·cases h
theorem Jk {calls:bY} {bars:List Nat}:∀ {l:List IOper} {env:Env} {σ:Sto} {r:Ex×Env×Sto},LW calls bars l env σ=some r→bD (xcall calls) bars l env σ=some r
 | [],env,σ,r,h=>h
 | o::l,env,σ,r,h=>by
  simp only [LW] at h
  simp only [bD]
  cases ha:OJ calls bars o env σ with
  | none=>rw [ha] at h; cases h
  | some y =>
   rw [ha] at h
   rw [OM ha]
   obtain ⟨e,y1,y2⟩:=y
   cases e with
   | norm=>exact Jk h
   | exit id=>exact h
   | ret=>exact h
   | pan v=>exact h
theorem Kf {calls:bY} {bars:List Nat} {f:FuncId} {l:Nat} {args:List PV} {σ:Sto}:xcall calls bars f (.yld l::args) σ=calls bars f (.yld l::args) σ:=by
 unfold xcall lV
 simp [below.belowAll,below,norm.normAll,norm,Function.comp_def]
theorem Jl {calls:bY} {i:It} (hi:LeI i i):∀ (c:IC) {bar:List Nat} {env:Env} {σ:Sto} {r:Ex×Env×Sto},xC calls i bar c env σ=some r→evC (xcall calls) i bar c env σ=some r:=by
 intro c
 induction c with
 | skip=>intro bar env σ r hr; exact hr
 | stuck=>intro bar env σ r hr; cases hr
 | seq a b iha ihb =>
  intro bar env σ r hr
  simp only [evC,xC] at hr ⊢
  cases ha:xC calls i bar a env σ with
  | none=>rw [ha] at hr; cases hr
  | some y =>
   rw [ha] at hr
   rw [iha ha]
   obtain ⟨e,y1,y2⟩:=y
   cases e with
   | norm=>exact ihb hr
   | exit id=>exact hr
   | ret=>exact hr
   | pan v=>exact hr
 | reg d ops keep =>
  intro bar env σ r hr
  simp only [evC,xC] at hr ⊢
  cases ha:LW calls bar ops env σ with
  | none=>rw [ha] at hr; simp at hr
  | some y =>
   rw [ha] at hr; rw [Jk ha]
   obtain ⟨ye,y1,y2⟩:=y
   cases ye<;>cases d<;>first|exact hr|cases hr
 | psa c l ih =>
  intro bar env σ r hr
  simp only [evC,xC] at hr ⊢
  cases hc:xC calls i bar c env σ with
  | none=>rw [hc] at hr; cases hr
  | some y=>rw [hc] at hr; rw [ih hc]; exact hr
 | ps l c ih =>
  intro bar env σ r hr
  simp only [evC,xC] at hr ⊢
  cases hp:psE bar env σ l with
  | none=>rw [hp] at hr; cases hr
  | some y=>rw [hp] at hr; exact ih hr
 | cond c a b iha ihb =>
  intro bar env σ r hr
  simp only [evC,xC] at hr ⊢
  split at hr
  ·rename_i hx; simp only [hx]; exact iha hr
  ·rename_i hx; simp only [hx]; exact ihb hr
  ·cases hr
 | block id a ih =>
  intro bar env σ r hr
  simp only [evC,xC] at hr ⊢
  cases ha:xC calls i bar a env σ with
  | none=>rw [ha] at hr; cases hr
  | some y=>rw [ha] at hr; rw [ih ha]; exact hr
 | loop a ih =>
  intro bar env σ r hr
  simp only [evC,xC] at hr ⊢
  exact hi _ _ (fun x r hx=>ih hx) _ _ hr
 | cut a keep ih =>
  intro bar env σ r hr
  simp only [evC,xC] at hr ⊢
  cases ha:xC calls i (σ.length::bar) a env σ with
  | none=>rw [ha] at hr; cases hr
  | some y=>rw [ha] at hr; rw [ih ha]; exact hr
 | rfunc x ps keep asg bd _ _ =>
  intro bar env σ r hr
  simp only [evC,xC,Kf] at hr ⊢
  exact hr
 | dfr=>intro bar env σ r hr; cases hr
 | exit id _=>intro bar env σ r hr; exact hr
 | ret _=>intro bar env σ r hr; exact hr
theorem Kg {calls:bY} {i:It} (hi:LeI i i) {bars:List Nat} {l:FuncId} {args:List PV} {σ:Sto} {r:Out×Sto} (hr:Ib calls i bars l args σ=some r):nM (xcall calls) i bars l args σ=some r:=by
 unfold Ib at hr
 unfold nM
 split at hr
 ·rename_i hs
  simp only [hs]
  split at hr
  ·rename_i hl
   rw [if_pos hl]
   split at hr
   ·rename_i h1
    rw [Jl hi _ h1]
    simp only
    split at hr
    ·rename_i hs1
     simp only [hs1]
     split at hr
     ·rename_i h2
      rw [Jl hi _ h2]
      exact hr
     ·cases hr
    ·cases hr
   ·cases hr
  ·cases hr
 ·cases hr
theorem LY {T:FuncId→Option IF} {H:gk} {calls:bY} {i:It} (hi:LeI i i) {bars:List Nat} {f:FuncId} {args:List PV} {σ:Sto} {r:Out×Sto} (hr:LX T H calls i bars f args σ=some r):body T H (xcall calls) i bars f args σ=some r:=by
 unfold LX at hr
 unfold body
 by_cases hy:YB≤f
 ·rw [if_pos hy] at hr ⊢
  exact Kg hi hr
 rw [if_neg hy] at hr ⊢
 cases hH:H f with
 | some hk=>rw [hH] at hr; exact hr
 | none =>
  rw [hH] at hr
  simp only at hr ⊢
  cases hT:T f with
  | none=>rw [hT] at hr; cases hr
  | some fn =>
   rw [hT] at hr
   simp only at hr ⊢
   by_cases hl:args.length=fn.np
   ·rw [if_pos hl] at hr ⊢
    by_cases hm:fn.mode=2
    ·rw [if_pos hm] at hr ⊢
     cases ha:evD T (xC calls i) (σ.length::bars) fn.body (ep 0 args) σ with
     | none=>rw [ha] at hr; cases hr
     | some y=>rw [ha] at hr; rw [wC (fun l c e s r hr=>Jl hi c hr) _ _ _ _ _ ha]; exact hr
    rw [if_neg hm] at hr ⊢
    by_cases hm3:fn.mode=3
    ·rw [if_pos hm3] at hr; cases hr
    rw [if_neg hm3] at hr ⊢
    cases ha:xC calls i (σ.length::bars) fn.body (gg fn.mode args) σ with
    | none=>rw [ha] at hr; cases hr
    | some y=>rw [ha] at hr; rw [Jl hi _ ha]; exact hr
   ·rw [if_neg hl] at hr; cases hr
section
variable [CodeRel] {P:Program}
theorem Gt {calls:bY} (hc:dL P calls):dL P (xcall calls):=by
 intro bars f args σ r hr
 unfold xcall lV at hr
 split at hr
 ·rename_i hb
  simp only [Bool.and_eq_true,decide_eq_true_eq] at hb
  split at hr
  ·rename_i o ho
   cases hr
   obtain ⟨h1,h2⟩:=zi hc hb.2 ho hb.1
   exact ⟨fun _=>h1,fun κ w xs hi hrel _=>⟨fun _=>h2 bars κ σ w xs hi hrel,fun l hl=>absurd hb.2 (by rw [hl]; exact Nat.not_lt.2 (Nat.le_add_right _ _))⟩⟩
  ·rw [j9] at hr; exact hc bars f args σ r hr
  ·cases hr
 ·split at hr
  ·rename_i hb
   simp only [Bool.and_eq_true,decide_eq_true_eq] at hb
   split at hr
   ·rename_i o ho
    cases hr
    obtain ⟨h1,h2⟩:=zi hc hb.2 ho hb.1
    exact ⟨fun _=>h1,fun κ w xs hi hrel _=>⟨fun _=>h2 bars κ σ w xs hi (RelL.norm _ _ hrel),fun l hl=>absurd hb.2 (by rw [hl]; exact Nat.not_lt.2 (Nat.le_add_right _ _))⟩⟩
   ·rw [j9] at hr; exact hc bars f args σ r hr
   ·cases hr
  ·rw [j9] at hr; exact hc bars f args σ r hr
end
end Go.Ev

namespace Go.Ev
variable [CodeRel]
def Tys (R:TypeId→List PV→Prop):List TypeId→List PV→Prop
 | [],cs=>cs=[]
 | t::ts,cs=>∃ a b,cs=a++b∧R t a∧Tys R ts b
def HasTy (P:Program):Nat→TypeId→List PV→Prop
 | 0,_,_=>False
 | n+1,t,cs=>match P.underlying t with
  | some .bool=>∃ b,cs=[.b b]
  | some (.int k)=>∃ m,cs=[.k (.int k m)]∧(Lit.int k m).wf=true
  | some .string=>∃ s:ByteArray,cs=[.s s]∧s.size≤maxLen
  | some (.slice e)=>∃ es,cs=[.sl false es]∧es.length≤maxLen∧∀ x∈es,HasTy P n e x
  | some (.struct fs)=>Tys (HasTy P n) (fs.toList.map (·.type)) cs
  | _=>False
def uc (P:Program) (total:Nat):Nat→List Field→Bool
 | off,[]=>off == total
 | off,f::r=>f.offset == off && uc P total (off+P.cellsOf f.type) r
def Jm (P:Program) (S:List TypeId):Bool:=S.all fun t=>match P.underlying t with
 | some .bool|some (.int _)|some .string=>P.cellsOf t == 1
 | some (.slice e)=>S.contains e && decide (0<P.cellsOf e) && P.cellsOf t == 1
 | some (.struct fs)=>fs.toList.all (fun f=>S.contains f.type) && uc P (P.cellsOf t) 0 fs.toList
 | _=>false
def Kn.start (w:World):Kn:={ ρ:=fun _=>(0,0),esz:=fun _=>0,gen:=fun _=>0,tok:=fun _=>none,M:=fun b o=>w.cell? ⟨b,o,none⟩,cap:=fun _=>0 }
theorem wJ {α β:Type} {f:α→Option β}:∀ {l:List α} {r:List β},l.mapM f=some r→∀ x∈l,∃ y,f x=some y
 | [],_,_,x,hx=>by cases hx
 | a::l,r,h,x,hx=>by
  simp only [List.mapM_cons,Option.pure_def,Option.bind_eq_bind,Option.bind_eq_some_iff,Option.some.injEq] at h
  obtain ⟨y,hy,r',hr,-⟩:=h
  rcases List.mem_cons.1 hx with rfl|hx
  ·exact ⟨y,hy⟩
  ·exact wJ hr x hx
theorem Gu {β:Type} {f:Nat→Option β}:∀ {n:Nat} {r:List β} {k:Nat},((List.range n).map (·+k)).mapM f=some r→r.length=n∧∀ i,i<n→f (i+k)=r[i]?
 | 0,r,k,h=>by simp at h; subst h; simp
 | n+1,r,k,h=>by
  rw [List.range_succ_eq_map] at h
  simp only [List.map_cons,List.map_map,List.mapM_cons,Option.pure_def,Option.bind_eq_bind,Option.bind_eq_some_iff,Option.some.injEq] at h
  obtain ⟨y,hy,r',hr,rfl⟩:=h
  have he:List.map ((fun x=>x+k) ∘ Nat.succ) (List.range n)=(List.range n).map (·+(k+1)):=by
   apply List.map_congr_left
   intro a _
   simp only [Function.comp]; omega
  rw [he] at hr
  obtain ⟨h1,h2⟩:=Gu hr
  refine ⟨by simp [h1],fun i hi=>?_⟩
  cases i with
  | zero=>simpa using hy
  | succ i=>have:=h2 i (by omega); rw [show i+1+k=i+(k+1) by omega,this]; simp
theorem Jn {w:World} {b:Nat}:∀ {pvs:List PV} {cs:List Value} {o:Nat},RelL (Kn.start w) pvs cs→(∀ v∈cs,v.oneCell'=true)→(∀ i v,cs[i]? = some v→w.cell? ⟨b,o+i,none⟩=some v)→RelM (Kn.start w) b o pvs
 | [],cs,o,h,_,_=>trivial
 | p::r,cs,o,h,h1,h2=>by
  simp only [RelL] at h
  obtain ⟨v,l,rfl,hv,hl⟩:=h
  refine ⟨⟨v,(by have:=h2 0 v (by simp); simpa using this:w.cell? ⟨b,o,none⟩=some v),h1 v (by simp),hv⟩,Jn hl (fun u hu=>h1 u (by simp [hu])) fun i u hi=>?_⟩
  have:=h2 (i+1) u (by simpa using hi)
  rwa [show o+(i+1)=o+1+i by omega] at this
section
variable {H:Type} {enc:TypeId×Value→H} {P:Program} {w:World} {spare:Nat→Bool} {S:List TypeId}
theorem Gv {n:Nat} (ih:∀ t∈S,∀ cs x,DataW.trod enc P w 0 spare true n t cs=some x→cs.length=P.cellsOf t→∃ pvs,HasTy P n t pvs∧RelL (Kn.start w) pvs cs∧∀ v∈cs,v.oneCell'=true) (total:Nat) :
  ∀ (fs:List Field) (off:Nat) (cs:List Value),cs.length=total→(∀ f∈fs,f.type∈S)→uc P total off fs=true→(∀ f∈fs,∃ x,DataW.trod enc P w 0 spare true n f.type ((cs.drop f.offset).take (P.cellsOf f.type))=some x) →
   ∃ pvs,Tys (HasTy P n) (fs.map (·.type)) pvs∧RelL (Kn.start w) pvs (cs.drop off)∧∀ v∈cs.drop off,v.oneCell'=true
 | [],off,cs,hl,_,hc,_=>by
  simp only [uc,beq_iff_eq] at hc
  have:cs.drop off=[]:=List.drop_eq_nil_of_le (by omega)
  exact ⟨[],rfl,by rw [this]; rfl,by simp [this]⟩
 | f::r,off,cs,hl,hS,hc,hx=>by
  simp only [uc,Bool.and_eq_true,beq_iff_eq] at hc
  obtain ⟨hoff,hc⟩:=hc
  have hle:off+P.cellsOf f.type≤total:=by
   clear hx
   have:∀ (r:List Field) (o:Nat),uc P total o r=true→o≤total:=by
    intro r
    induction r with
    | nil=>intro o h; simp [uc] at h; omega
    | cons g r ih=>intro o h; simp only [uc,Bool.and_eq_true,beq_iff_eq] at h; have:=ih _ h.2; omega
   exact this r _ hc
  obtain ⟨x,hx0⟩:=hx f (by simp)
  rw [hoff] at hx0
  obtain ⟨p,h1,h2,h3⟩:=ih f.type (hS f (by simp)) _ _ hx0 (by simp; omega)
  obtain ⟨q,h4,h5,h6⟩:=Gv ih total r (off+P.cellsOf f.type) cs hl (fun g hg=>hS g (by simp [hg])) hc (fun g hg=>hx g (by simp [hg]))
  have hsp:cs.drop off=(cs.drop off).take (P.cellsOf f.type)++cs.drop (off+P.cellsOf f.type):=by
   rw [← List.drop_drop]; exact (List.take_append_drop _ _).symm
  refine ⟨p++q,⟨p,q,rfl,h1,h4⟩,?_,fun v hv=>?_⟩
  ·rw [hsp]; exact RelL.append h2 h5
  ·rw [hsp] at hv
   rcases List.mem_append.1 hv with hv|hv
   ·exact h3 v hv
   ·exact h6 v hv
theorem Bg {n:Nat} {e:TypeId} (ih:∀ cs x,DataW.trod enc P w 0 spare true n e cs=some x→cs.length=P.cellsOf e→∃ pvs,HasTy P n e pvs∧RelL (Kn.start w) pvs cs∧∀ v∈cs,v.oneCell'=true) {a:Addr} (ha:a.spot=none) :
  ∀ (k j:Nat),(∀ i,j≤i→i<j+k→∃ x,((w.cells? 0 (a.add (i * P.cellsOf e)) (P.cellsOf e)).bind (DataW.trod enc P w 0 spare true n e))=some x) →
   ∃ es,es.length=k∧(∀ x∈es,HasTy P n e x)∧RelE (Kn.start w) (P.cellsOf e) a.block (a.off+j * P.cellsOf e) es
 | 0,j,_=>⟨[],rfl,by simp,trivial⟩
 | k+1,j,h=>by
  obtain ⟨es,h1,h2,h3⟩:=Bg ih ha k (j+1) (fun i hi hi'=>h i (by omega) (by omega))
  obtain ⟨x,hx⟩:=h j (Nat.le_refl _) (by omega)
  simp only [Option.bind_eq_some_iff] at hx
  obtain ⟨cs,hcs,hx⟩:=hx
  unfold World.cells? at hcs
  rw [if_pos (Nat.zero_le _)] at hcs
  have hcs':((List.range (P.cellsOf e)).map (·+0)).mapM (fun i=>w.cell? ((a.add (j * P.cellsOf e)).add i))=some cs:=by simpa using hcs
  obtain ⟨hl,hg⟩:=Gu hcs'
  obtain ⟨p,h4,h5,h6⟩:=ih cs x hx hl
  have hadd:∀ i,(a.add (j * P.cellsOf e)).add i=⟨a.block,a.off+j * P.cellsOf e+i,none⟩:=by
   intro i
   obtain ⟨b,o,s⟩:=a
   simp only at ha; subst ha
   rw [dl,dl]
  have hm:RelM (Kn.start w) a.block (a.off+j * P.cellsOf e) p:=Jn h5 h6 fun i v hi=>by
   have hlt:=(List.getElem?_eq_some_iff.1 hi).1
   have:=hg i (by omega)
   rw [hadd,hi] at this
   simpa using this
  refine ⟨p::es,by simp [h1],fun y hy=>?_,⟨by rw [h5.length,hl],hm,?_⟩⟩
  ·rcases List.mem_cons.1 hy with rfl|hy
   ·exact h4
   ·exact h2 y hy
  ·rwa [show a.off+j * P.cellsOf e+P.cellsOf e=a.off+(j+1) * P.cellsOf e by rw [Nat.add_mul]; omega]
theorem Bh (hS:Jm P S=true):∀ (n:Nat) (t:TypeId),t∈S→∀ cs x,DataW.trod enc P w 0 spare true n t cs=some x→cs.length=P.cellsOf t→∃ pvs,HasTy P n t pvs∧RelL (Kn.start w) pvs cs∧∀ v∈cs,v.oneCell'=true
 | 0,t,_,cs,x,h,_=>by simp [DataW.trod] at h
 | n+1,t,ht,cs,x,h,hlen=>by
  have hS':=List.all_eq_true.1 hS t ht
  have ih:=Bh hS n
  cases hu:P.underlying t with
  | none=>rw [hu] at hS'; simp at hS'
  | some d =>
   rw [hu] at hS'
   have one:∀ (v:Value) (p:PV),cs=[v]→RelV (Kn.start w) p v→v.oneCell'=true→HasTy P (n+1) t [p]→∃ pvs,HasTy P (n+1) t pvs∧RelL (Kn.start w) pvs cs∧∀ v∈cs,v.oneCell'=true:=by
    rintro v p rfl h1 h2 h3
    exact ⟨[p],h3,⟨v,[],rfl,h1,rfl⟩,by simpa using h2⟩
   cases d<;>simp only [Bool.false_eq_true] at hS'<;>unfold DataW.trod at h<;>rw [hu] at h
   case bool =>
    split at h<;>first|(cases h; done)|(rename_i hh; cases hh; done)|skip
    rename_i b hh
    exact one _ (.b b) rfl rfl rfl (by simp only [HasTy,hu]; exact ⟨b,rfl⟩)
   case int k =>
    split at h<;>first|(cases h; done)|(rename_i hh; cases hh; done)|skip
    rename_i k1 k2 m hh
    cases hh
    split at h
    ·rename_i hk
     obtain ⟨rfl,hk⟩:=hk
     exact one _ (.k (.int k2 m)) rfl rfl rfl (by simp only [HasTy,hu]; exact ⟨m,rfl,hk⟩)
    ·cases h
   case string =>
    split at h<;>first|(cases h; done)|(rename_i hh; cases hh; done)|skip
    rename_i s hh
    split at h
    ·rename_i hk
     exact one _ (.s s) rfl rfl rfl (by simp only [HasTy,hu]; exact ⟨s,rfl,hk⟩)
    ·cases h
   case slice e =>
    simp only [Bool.and_eq_true,List.contains_eq_mem,decide_eq_true_eq,beq_iff_eq] at hS'
    have hS':=hS'.1
    split at h<;>first|(cases h; done)|(rename_i hh; cases hh; done)|skip
    ·rename_i e1 hh
     cases hh
     exact one _ (.sl false []) rfl ⟨none,0,0,rfl,Nat.le_refl _,by simp,by simp⟩ rfl (by simp only [HasTy,hu]; exact ⟨[],rfl,Nat.zero_le _,by simp⟩)
    ·rename_i e1 ad len cap hh
     cases hh
     simp only at h
     split at h
     ·rename_i hk
      simp only [Option.bind_eq_some_iff] at h
      obtain ⟨elems,hel,-⟩:=h
      have hall:∀ i,i<len→∃ x,((w.cells? 0 (ad.add (i * P.cellsOf e)) (P.cellsOf e)).bind (DataW.trod enc P w 0 spare true n e))=some x:=fun i hi=>wJ hel i (List.mem_range.2 hi)
      cases len with
      | zero=>exact one _ (.sl false []) rfl ⟨some ad,cap,0,rfl,by simp,by simp,by simp⟩ rfl (by simp only [HasTy,hu]; exact ⟨[],rfl,Nat.zero_le _,by simp⟩)
      | succ len =>
       have hsp:ad.spot=none:=by
        obtain ⟨y,hy⟩:=hall 0 (by omega)
        simp only [Option.bind_eq_some_iff] at hy
        obtain ⟨c0,hc0,-⟩:=hy
        unfold World.cells? at hc0
        rw [if_pos (Nat.zero_le _)] at hc0
        obtain ⟨z,hz⟩:=wJ hc0 0 (List.mem_range.2 hS'.2)
        simp only [Nat.zero_mul,Addr.add,if_pos] at hz
        unfold World.cell? at hz
        cases hs:ad.spot with
        | none=>rfl
        | some q =>
         rw [hs] at hz
         split at hz
         ·simp at hz
         ·cases hz
       obtain ⟨es,h1,h2,h3⟩:=Bg (fun cs x h h'=>ih e hS'.1 cs x h h') hsp (len+1) 0 (fun i _ hi=>hall i (by omega))
       refine one _ (.sl false es) rfl ⟨some ad,cap,P.cellsOf e,by rw [h1],by rw [h1]; exact hk.2.1,by simp,fun _=>⟨ad.block,ad.off,?_,?_⟩⟩ rfl (by simp only [HasTy,hu]; exact ⟨es,rfl,by rw [h1]; exact Nat.le_trans hk.2.1 hk.2.2,h2⟩)
       ·obtain ⟨b,o,s⟩:=ad
        simp only at hsp; subst hsp; rfl
       ·simpa using h3
     ·cases h
   case struct fs =>
    simp only [Bool.and_eq_true,List.all_eq_true,List.contains_eq_mem,decide_eq_true_eq] at hS'
    have h:(if cs.length=P.cellsOf t then (fs.toList.mapM fun f=>DataW.trod enc P w 0 spare true n f.type ((cs.drop f.offset).take (P.cellsOf f.type))).map fun xs=>(DataW.agg (xs.map (·.1)),xs.flatMap (·.2)) else none)=some x:=h
    rw [if_pos hlen] at h
    simp only [Option.map_eq_some_iff] at h
    obtain ⟨xs,hxs,-⟩:=h
    obtain ⟨pvs,h1,h2,h3⟩:=Gv (w:=w) (P:=P) (spare:=spare) (enc:=enc) (S:=S) (fun t ht cs x h hl=>ih t ht cs x h hl) (P.cellsOf t) fs.toList 0 cs hlen hS'.1 hS'.2 (fun f hf=>wJ hxs f hf)
    exact ⟨pvs,by simp only [HasTy,hu]; exact h1,by simpa using h2,by simpa using h3⟩
def LZ (P:Program) (n:Nat) (t:TypeId) (p:PV):Prop:=∃ cs,HasTy P n t cs∧match P.underlying t with
 | some (.struct _)=>p=.agg cs
 | _=>cs=[p]
def HasTysV (P:Program) (n:Nat):List TypeId→List PV→Prop
 | [],[]=>True
 | t::ts,p::ps=>LZ P n t p∧HasTysV P n ts ps
 | _,_=>False
theorem HasTy.le {P:Program}:∀ {n m:Nat} {t:TypeId} {cs:List PV},n≤m→HasTy P n t cs→HasTy P m t cs
 | 0,_,_,_,_,h=>by simp [HasTy] at h
 | n+1,0,_,_,hm,_=>by omega
 | n+1,m+1,t,cs,hm,h=>by
  have ih:∀ (ts:List TypeId) (cs:List PV),Tys (HasTy P n) ts cs→Tys (HasTy P m) ts cs:=by
   intro ts
   induction ts with
   | nil=>intro cs h; exact h
   | cons t ts ih=>intro cs h; obtain ⟨a,b,h1,h2,h3⟩:=h; exact ⟨a,b,h1,HasTy.le (by omega) h2,ih b h3⟩
  unfold HasTy at h ⊢
  split at h
  ·exact h
  ·exact h
  ·exact h
  ·obtain ⟨es,h1,h2,h3⟩:=h
   exact ⟨es,h1,h2,fun x hx=>HasTy.le (by omega) (h3 x hx)⟩
  ·exact ih _ _ h
  ·exact h.elim
theorem Jo (hS:Jm P S=true) {base:Nat}:∀ (ts:List TypeId) (vs:List Value) (ds:List (DataW H)) (ps:List MemPlace),(∀ t∈ts,t∈S) →
  (∀ (j:Nat) t v,ts[j]? = some t→vs[j]? = some v→Value.okWide P w .any base t v)→DataW.TrodAll enc P w 0 spare true ts vs ds ps →
  ∃ n pvs,HasTysV P n ts pvs∧RelL (Kn.start w) pvs vs
 | [],[],ds,ps,_,_,_=>⟨0,[],trivial,rfl⟩
 | [],_::_,ds,ps,_,_,h=>by cases ds<;>simp [DataW.TrodAll] at h
 | _::_,[],ds,ps,_,_,h=>by cases ds<;>simp [DataW.TrodAll] at h
 | _::_,_::_,[],ps,_,_,h=>by simp [DataW.TrodAll] at h
 | t::ts,v::vs,d::ds,ps,hin,hok,h=>by
  obtain ⟨p,q,⟨fuel,h1⟩,h2,-⟩:=h
  have hokv:=hok 0 t v rfl rfl
  obtain ⟨n,pvs,h3,h4⟩:=Jo hS ts vs ds q (fun t ht=>hin t (by simp [ht])) (fun j t v ht hv=>hok (j+1) t v (by simpa using ht) (by simpa using hv)) h2
  have ht:=hin t (by simp)
  have hst:=List.all_eq_true.1 hS t ht
  have fin:∀ p,LZ P fuel t p→RelV (Kn.start w) p v→∃ n pvs,HasTysV P n (t::ts) pvs∧RelL (Kn.start w) pvs (v::vs):=by
   intro p ⟨cs,g1,g2⟩ g3
   refine ⟨max fuel n,p::pvs,⟨⟨cs,g1.le (by omega),g2⟩,?_⟩,⟨v,vs,rfl,g3,h4⟩⟩
   have up:∀ (ts:List TypeId) (pvs:List PV),HasTysV P n ts pvs→HasTysV P (max fuel n) ts pvs:=by
    intro ts
    induction ts with
    | nil=>intro pvs h; cases pvs<;>exact h
    | cons t ts ih =>
     intro pvs h
     cases pvs with
     | nil=>exact h
     | cons p ps=>obtain ⟨⟨cs,k1,k2⟩,k3⟩:=h; exact ⟨⟨cs,k1.le (by omega),k2⟩,ih ps k3⟩
   exact up ts pvs h3
  have scalar:(∀ fs,P.underlying t≠some (.struct fs))→P.cellsOf t=1→v.cells=#[v]→∃ n pvs,HasTysV P n (t::ts) pvs∧RelL (Kn.start w) pvs (v::vs):=by
   intro k1 k2 k3
   obtain ⟨cs,h5,h6,h7⟩:=Bh (w:=w) hS fuel t ht v.cells.toList _ h1 (by rw [k3,k2]; rfl)
   rw [k3] at h6
   have hl:=h6.length
   match cs,h6 with
   | [p],h6 =>
    simp only [RelL] at h6
    obtain ⟨u,l,e1,e2,rfl⟩:=h6
    simp only [List.cons.injEq,and_true] at e1
    subst e1
    refine fin p ⟨[p],h5,?_⟩ e2
    split
    ·rename_i fs hfs; exact absurd hfs (k1 fs)
    ·rfl
   | [],h6=>simp at hl
   | _::_::_,h6=>simp at hl
  cases hu:P.underlying t with
  | none=>rw [hu] at hst; simp at hst
  | some dd =>
   rw [hu] at hst
   unfold Value.okWide at hokv
   rw [hu] at hokv
   cases dd<;>simp only [Bool.false_eq_true] at hst
   case bool =>
    simp only [beq_iff_eq] at hst
    simp only [Cell.okWide,Cell.ok,hu] at hokv
    refine scalar (fun fs h=>by simp [hu] at h) hst ?_
    cases v<;>first|rfl|exact hokv.elim
   case int k =>
    simp only [beq_iff_eq] at hst
    simp only [Cell.okWide,Cell.ok,hu] at hokv
    refine scalar (fun fs h=>by simp [hu] at h) hst ?_
    cases v<;>first|rfl|exact hokv.elim
   case string =>
    simp only [beq_iff_eq] at hst
    simp only [Cell.okWide,Cell.ok,hu] at hokv
    refine scalar (fun fs h=>by simp [hu] at h) hst ?_
    cases v<;>first|rfl|exact hokv.elim
   case slice e =>
    simp only [Bool.and_eq_true,beq_iff_eq] at hst
    simp only [Cell.okWide,Cell.ok,hu] at hokv
    refine scalar (fun fs h=>by simp [hu] at h) hst.2 ?_
    cases v<;>first|rfl|exact hokv.elim
   case struct fs =>
    obtain ⟨cs,rfl,hsz,-⟩:=hokv
    obtain ⟨pcs,h5,h6,h7⟩:=Bh (w:=w) hS fuel t ht _ _ h1 (by simpa [Value.cells] using hsz)
    exact fin (.agg pcs) ⟨pcs,h5,by rw [hu]⟩ ⟨cs,rfl,h6,h7⟩
end
end Go.Ev

namespace Go.Ev
def qZ (esz:Nat) (zero:List PV):IF:=⟨1,
 .seq (.reg none [⟨some 2,.mov (.c (.sl true [])),none⟩] [0])
 (.seq (.seq (.reg none [⟨some 3,.mov (.t 0),none⟩,
  ⟨some 4,.slnil false (.t 3),none⟩] [0,4])
 (.cond (.t 4) (.seq (.reg none [⟨some 2,.mov (.c (.sl true [])),none⟩] [2])
  (.ret [2]))
 (.skip)))
 (.seq (.reg none [⟨some 5,.bslice esz 0 zero [],none⟩,
  ⟨some 6,.mov (.t 0),none⟩,
  ⟨some 7,.appo esz (.t 5) (.t 6),none⟩,
  ⟨some 2,.mov (.t 7),none⟩] [2])
 (.ret [2]))),
 [.t 2],6⟩
def vP (esz:Nat):List PV→Sto→Option (Out×Sto)
 | [v],σ=>match norm v with
  | .sl _ []=>some (.ret (.sl true []),σ)
  | .sl _ (e::es)=>if bV esz (e::es) && decide ((e::es).length≤LIM) then some (.ret (.ow σ.length (e::es).length (e::es)),σ++[.tok esz (e::es).length]) else none
  | _=>none
 | _,_=>none
section
variable {P:Program}
theorem Qw:@Bc (CR P) P (fun _=>none):=fun f h hh=>by cases hh
theorem ON:@dL (CR P) P (fun _ _ _ _=>none):=fun _ _ _ _ _ h=>by cases h
theorem DV {f:FuncId} {esz:Nat} {zero:List PV} (hchk:nG P f (qZ esz zero)=true) (hz:zero.length=esz) (hf:f<YB) (args:List PV) (σ:Sto) (r:Out×Sto) (hr:vP esz args σ=some r) :
  eO P f∧∀ bars κ w (xs:Array Value),@INV (CR P) bars κ σ w→RelL κ args xs.toList→below.belowAll σ.length args=true→Calls P f xs w (@jG (CR P) bars κ σ w r):=by
 letI:CodeRel:=CR P
 have hT:∀ g fn,(fun g=>if g=f then some (qZ esz zero) else none) g=some fn→nG P g fn=true:=by
  intro g fn h
  simp only at h
  split at h
  ·rename_i hg; subst hg; cases h; exact hchk
  ·cases h
 have hb:=Bd (P:=P) (fun _ _ _=>Iff.rfl) hT Qw ON 0
 have hcall:eO P f:=(hb [] f [.k (.slice none 0 0)] [] (.ret (.sl true []),[]) (by
  simp [body,hf,Nat.not_le.2 hf,qZ,evC,bD,cL,dP,opE,ev,bw,d7,restrict,gg,ep,norm,jC,Ep,mF,rG])).1 hf
 refine ⟨hcall,fun bars κ w xs hi hrel hbl=>?_⟩
 unfold vP at hr
 split at hr
 ·rename_i v
  have hx:∃ x,xs.toList=[x]∧RelV κ v x:=by
   simp only [RelL] at hrel
   obtain ⟨x,l,e,h1,rfl⟩:=hrel
   exact ⟨x,e,h1⟩
  obtain ⟨x,hxl,hv⟩:=hx
  have hn:=RelV.norm v x hv
  split at hr
  ·rename_i t hnv
   rw [hnv] at hn
   obtain ⟨a,cap,e',rfl,-⟩:=hn
   cases hr
   have hrun:body (fun g=>if g=f then some (qZ esz zero) else none) (fun _=>none) (fun _ _ _ _=>none) (fun s x=>dB s 0 x) bars f [.k (.slice a 0 cap)] σ=some (.ret (.sl true []),σ):=by
    cases a with
    | none=>simp [body,hf,Nat.not_le.2 hf,qZ,evC,bD,cL,dP,opE,ev,bw,d7,restrict,gg,ep,norm,jC,Ep,mF,rG]
    | some a=>simp [body,hf,Nat.not_le.2 hf,qZ,evC,bD,cL,dP,opE,ev,bw,d7,restrict,gg,ep,norm,jC,Ep,mF,rG,evp,hz,Em,df,bV,IOp.quiet]
   exact (((hb bars f _ σ _ hrun).2 κ w xs hi (by rw [hxl]; exact ⟨_,_,rfl,rfl,rfl⟩) rfl).1 hf)
  ·rename_i t e es hnv
   split at hr
   ·rename_i hc
    simp only [Bool.and_eq_true,decide_eq_true_eq] at hc
    cases hr
    have hrun:body (fun g=>if g=f then some (qZ esz zero) else none) (fun _=>none) (fun _ _ _ _=>none) (fun s x=>dB s 0 x) bars f [v] σ=some (.ret (.ow σ.length (e::es).length (e::es)),σ++[.tok esz (e::es).length]):=by
     simp only [body,if_neg (Nat.not_le.2 hf),if_true,qZ,evC,bD,cL,dP,opE,ev,bw,d7,restrict,gg,ep,hnv]
     simp [evC,bD,cL,dP,opE,ev,bw,d7,restrict,jC,Ep,mF,rG,evp,hz,Em,df,hc.1,IOp.quiet]
     have:=hc.2
     simp at this
     simp [this,bw,d7,restrict,evC,bD,cL,dP,opE,ev,jC,Ep,mF,rG]
    exact (((hb bars f _ σ _ hrun).2 κ w xs hi hrel hbl).1 hf)
   ·cases hr
  ·cases hr
 ·cases hr
end
end Go.Ev

namespace Go.Ev
noncomputable section
theorem sV {f g:bY} (h:LeS f g):LeS (xcall f) (xcall g):=by
 intro l a b c r hr
 unfold xcall lV at hr ⊢
 have key:∀ (args:List PV),((match f [] a args [] with
   | some (r,[])=>some (true,r,c)
   | some _=>(f l a b c).map fun p=>(false,p)
   | none=>none:Option (Bool×Out×Sto)).map (·.2))=some r→((match g [] a args [] with
   | some (r,[])=>some (true,r,c)
   | some _=>(g l a b c).map fun p=>(false,p)
   | none=>none:Option (Bool×Out×Sto)).map (·.2))=some r:=by
  intro args hr
  cases hf:f [] a args [] with
  | none=>rw [hf] at hr; cases hr
  | some y =>
   rw [hf] at hr
   rw [h _ _ _ _ _ hf]
   obtain ⟨y1,y2⟩:=y
   cases y2 with
   | nil=>exact hr
   | cons o os =>
    simp only [j9] at hr ⊢
    exact h _ _ _ _ _ hr
 split at hr
 ·rename_i hc; rw [if_pos hc]; exact key _ hr
 ·rename_i hc
  rw [if_neg hc]
  split at hr
  ·rename_i hc2; rw [if_pos hc2]; exact key _ hr
  ·rename_i hc2
   rw [if_neg hc2]
   rw [j9] at hr ⊢
   exact h _ _ _ _ _ hr
theorem Tends.xcall {fs:Nat→bY} {f:bY} (h:Tends fs f):Tends (fun n=>Ev.xcall (fs n)) (Ev.xcall f):=by
 refine ⟨fun n m hnm=>sV (h.mono n m hnm),fun l a b c r hr=>?_⟩
 unfold Ev.xcall lV at hr ⊢
 have key:∀ (args:List PV),((match f [] a args [] with
   | some (r,[])=>some (true,r,c)
   | some _=>(f l a b c).map fun p=>(false,p)
   | none=>none:Option (Bool×Out×Sto)).map (·.2))=some r→∃ n,((match fs n [] a args [] with
   | some (r,[])=>some (true,r,c)
   | some _=>(fs n l a b c).map fun p=>(false,p)
   | none=>none:Option (Bool×Out×Sto)).map (·.2))=some r:=by
  intro args hr
  cases hf:f [] a args [] with
  | none=>rw [hf] at hr; cases hr
  | some y =>
   rw [hf] at hr
   obtain ⟨n,hn⟩:=h.hit _ _ _ _ _ hf
   obtain ⟨y1,y2⟩:=y
   cases y2 with
   | nil=>exact ⟨n,by rw [hn]; exact hr⟩
   | cons o os =>
    simp only [j9] at hr
    obtain ⟨m,hm⟩:=h.hit _ _ _ _ _ hr
    refine ⟨max n m,?_⟩
    rw [h.mono n (max n m) (by omega) _ _ _ _ _ hn]
    simp only [j9]
    exact h.mono m (max n m) (by omega) _ _ _ _ _ hm
 split at hr
 ·rename_i hc; simp only [if_pos hc]; exact key _ hr
 ·rename_i hc
  simp only [if_neg hc]
  split at hr
  ·rename_i hc2; simp only [if_pos hc2]; exact key _ hr
  ·rename_i hc2
   simp only [if_neg hc2,j9]
   rw [j9] at hr
   exact h.hit _ _ _ _ _ hr
theorem L0 {T:FuncId→Option IF} {H:gk} {fs:Nat→bY} {g:bY} (h:Tends fs g) {bars:List Nat} {f:FuncId} {args:List PV} {σ:Sto} {r:Out×Sto} (hr:body T H g fI bars f args σ=some r) :
  ∃ n,body T H (fs n) (fun s x=>dB s n x) bars f args σ=some r:=by
 unfold body at hr ⊢
 by_cases hy:YB≤f
 ·rw [if_pos hy] at hr
  obtain ⟨n,hn⟩:=HU h _ _ _ _ _ hr
  exact ⟨n,by rw [if_pos hy]; exact hn⟩
 rw [if_neg hy] at hr
 cases hH:H f with
 | some hk =>
  rw [hH] at hr
  exact ⟨0,by rw [if_neg hy]; exact hr⟩
 | none =>
  rw [hH] at hr
  simp only at hr
  cases hT:T f with
  | none=>rw [hT] at hr; cases hr
  | some fn =>
   rw [hT] at hr
   simp only at hr
   by_cases hl:args.length=fn.np
   ·rw [if_pos hl] at hr
    by_cases hmode:fn.mode=2
    ·rw [if_pos hmode] at hr
     cases ha:evD T (evC g fI) (σ.length::bars) fn.body (ep 0 args) σ with
     | none=>rw [ha] at hr; cases hr
     | some y =>
      rw [ha] at hr
      obtain ⟨n,hn⟩:=OD (J7 h) _ _ _ _ _ ha
      refine ⟨n,?_⟩
      rw [if_neg hy]
      simp only []
      rw [if_pos hl,if_pos hmode,hn]
      exact hr
    rw [if_neg hmode] at hr
    by_cases hm3:fn.mode=3
    ·rw [if_pos hm3] at hr; cases hr
    rw [if_neg hm3] at hr
    cases ha:evC g fI (σ.length::bars) fn.body (gg fn.mode args) σ with
    | none=>rw [ha] at hr; cases hr
    | some y =>
     rw [ha] at hr
     obtain ⟨n,hn⟩:=Ay h _ _ _ _ _ ha
     refine ⟨n,?_⟩
     rw [if_neg hy]
     simp only []
     rw [if_pos hl,if_neg hmode,if_neg hm3,hn]
     exact hr
   ·rw [if_neg hl] at hr; cases hr
def ER (T:FuncId→Option IF) (H:gk):Nat→bY
 | 0,_,_,_,_=>none
 | k+1,bars,f,args,σ=>body T H (xcall (ER T H k)) (fun s x=>dB s k x) bars f args σ
theorem xR {T:FuncId→Option IF} {H:gk}:∀ n m,n≤m→LeS (ER T H n) (ER T H m):=by
 intro n
 induction n with
 | zero=>intro m _ l a b c r hr; cases hr
 | succ n ih =>
  intro m hm
  obtain ⟨m,rfl⟩:∃ l,m=l+1:=⟨m - 1,by omega⟩
  exact xK (sV (ih m (by omega))) (fun s t hst=>j8 hst n m (by omega))
open Classical in
def az (T:FuncId→Option IF) (H:gk):bY:=fun bars f args σ=>if h:∃ r n,ER T H n bars f args σ=some r then some h.choose else none
theorem Jp {T:FuncId→Option IF} {H:gk} {bars f args σ r n} (h:ER T H n bars f args σ=some r):az T H bars f args σ=some r:=by
 have hex:∃ r n,ER T H n bars f args σ=some r:=⟨r,n,h⟩
 unfold az
 rw [dif_pos hex]
 obtain ⟨m,hm⟩:=hex.choose_spec
 have h1:=xR (T:=T) (H:=H) m (max n m) (by omega) _ _ _ _ _ hm
 have h2:=xR (T:=T) (H:=H) n (max n m) (by omega) _ _ _ _ _ h
 rw [h1] at h2
 exact h2
theorem xS {T:FuncId→Option IF} {H:gk} {bars f args σ r} (h:az T H bars f args σ=some r):∃ n,ER T H n bars f args σ=some r:=by
 unfold az at h
 split at h
 ·rename_i hex
  obtain ⟨m,hm⟩:=hex.choose_spec
  cases h
  exact ⟨m,hm⟩
 ·cases h
theorem Ic (T:FuncId→Option IF) (H:gk):Tends (ER T H) (az T H):=⟨xR,fun _ _ _ _ _ h=>xS h⟩
theorem uX (T:FuncId→Option IF) (H:gk) (bars:List Nat) (f:FuncId) (args:List PV) (σ:Sto):az T H bars f args σ=body T H (xcall (az T H)) fI bars f args σ:=by
 have up:∀ r,az T H bars f args σ=some r→body T H (xcall (az T H)) fI bars f args σ=some r:=by
  intro r hr
  obtain ⟨n,hn⟩:=xS hr
  cases n with
  | zero=>cases hn
  | succ n=>exact xK (sV (fun _ _ _ _ _ h=>Jp h)) (Ga n) _ _ _ _ _ hn
 have down:∀ r,body T H (xcall (az T H)) fI bars f args σ=some r→az T H bars f args σ=some r:=by
  intro r hr
  obtain ⟨n,hn⟩:=L0 (Ic T H).xcall hr
  exact Jp (n:=n+1) hn
 cases h:body T H (xcall (az T H)) fI bars f args σ with
 | some r=>exact down r h
 | none =>
  cases h':az T H bars f args σ with
  | none=>rfl
  | some r=>rw [up r h'] at h; cases h
section
variable [CodeRel] {P:Program}
theorem Bi (hK:∀ ic c m,CodeRel.cd ic c m ↔ dv P m ic c=true∧iZ ic=true) {T:FuncId→Option IF} (hT:∀ f fn,T f=some fn→nG P f fn=true) {H:gk} (hH:Bc P H):∀ k,dL P (ER T H k)
 | 0=>fun _ _ _ _ _ h=>by cases h
 | k+1=>Bd hK hT hH (Gt (Bi hK hT hH k)) k
theorem Id (hK:∀ ic c m,CodeRel.cd ic c m ↔ dv P m ic c=true∧iZ ic=true) {T:FuncId→Option IF} (hT:∀ f fn,T f=some fn→nG P f fn=true) {H:gk} (hH:Bc P H):dL P (az T H):=by
 intro bars f args σ r h
 obtain ⟨n,hn⟩:=xS h
 exact Bi hK hT hH n bars f args σ r hn
end
def aE (T:FuncId→Option IF) (H:gk) (fn:IF) (bars:List Nat) (args:List PV) (σ:Sto):Option (Out×Sto) :=
 match evC (xcall (az T H)) fI (σ.length::bars) fn.body (gg fn.mode args) σ with
 | some (.norm,env,σ')|some (.ret,env,σ')=>(jC env σ' fn.res).bind fun vs=>(mF fn.mode σ.length (rG vs) σ').bind fun p=>some (.ret p.1,p.2)
 | some (.pan v,_,σ')=>if below σ.length v then some (.pan v,σ'.take σ.length) else none
 | _=>none
theorem ES {T:FuncId→Option IF} {H:gk} {n:FuncId} {fn:IF} (h1:n<YB) (h2:H n=none) (h3:T n=some fn) (h4:fn.mode≠2) (h5:fn.mode≠3) (bars:List Nat) (args:List PV) (σ:Sto) (hl:args.length=fn.np) :
  az T H bars n args σ=aE T H fn bars args σ:=by
 rw [uX]
 unfold body aE
 rw [if_neg (Nat.not_le.2 h1),h2]
 simp only []
 rw [h3]
 simp only []
 rw [if_pos hl,if_neg h4,if_neg h5]
 rfl
theorem ET {calls:bY} {bars:List Nat} {f:FuncId} {args:List PV} {σ:Sto} {r:Out} (h:calls [] f args []=some (r,[])) (hb:below.belowAll 0 args=true) (hf:f<YB):xcall calls bars f args σ=some (r,σ):=by
 unfold xcall lV
 rw [if_pos (by simp [hb,hf]),h]
 rfl
theorem Ie {calls:bY} {bars:List Nat} {f:FuncId} {args:List PV} {σ:Sto} {r:Out} (h:calls [] f (norm.normAll args) []=some (r,[])) (hb0:below.belowAll 0 args=false) (hb:below.belowAll 0 (norm.normAll args)=true) (hf:f<YB):xcall calls bars f args σ=some (r,σ):=by
 unfold xcall lV
 rw [if_neg (by simp [hb0]),if_pos (by simp [hb,hf]),h]
 rfl
theorem If {calls:bY} {bars:List Nat} {f:FuncId} {args:List PV} {σ:Sto} (hb0:below.belowAll 0 args=false) (hb:below.belowAll 0 (norm.normAll args)=false):xcall calls bars f args σ=calls bars f args σ:=by
 unfold xcall lV
 rw [if_neg (by simp [hb0]),if_neg (by simp [hb]),j9]
theorem Gw {calls:bY} {bars:List Nat} {l:Nat} {args:List PV} {σ:Sto}:xcall calls bars (YB+l) args σ=calls bars (YB+l) args σ:=by
 unfold xcall lV
 rw [if_neg (by simp),if_neg (by simp),j9]
end
end Go.Ev

namespace Go.Ev
inductive BT (α:Type) where
 | leaf
 | node (k:Nat) (v:α) (l r:BT α)
def BT.find {α:Type}:BT α→Nat→Option α
 | .leaf,_=>none
 | .node k v l r,f=>match Nat.blt f k with
  | true=>l.find f
  | false=>match Nat.beq f k with
   | true=>some v
   | false=>r.find f
def BT.all {α:Type} (p:Nat→α→Bool):BT α→Bool
 | .leaf=>true
 | .node k v l r=>p k v && (l.all p && r.all p)
theorem BT.all_find {α:Type} {p:Nat→α→Bool}:∀ {t:BT α} {f:Nat} {v:α},t.all p=true→t.find f=some v→p f v=true
 | .leaf,_,_,_,h=>by cases h
 | .node k u l r,f,v,ha,h=>by
  simp only [BT.all,Bool.and_eq_true] at ha
  simp only [BT.find] at h
  split at h
  ·exact BT.all_find ha.2.1 h
  ·split at h
   ·rename_i hb
    cases h
    rw [Nat.eq_of_beq_eq_true hb]; exact ha.1
   ·exact BT.all_find ha.2.2 h
def BT.toList {α:Type}:BT α→List (Nat×α)
 | .leaf=>[]
 | .node k v l r=>(k,v)::(l.toList++r.toList)
theorem BT.find_mem {α:Type}:∀ {t:BT α} {f:Nat} {v:α},t.find f=some v→(f,v)∈t.toList
 | .leaf,_,_,h=>by cases h
 | .node k u l r,f,v,h=>by
  simp only [BT.find] at h
  simp only [BT.toList,List.mem_cons,List.mem_append]
  split at h
  ·exact .inr (.inl (BT.find_mem h))
  ·split at h
   ·rename_i hb
    cases h
    exact .inl (by rw [Nat.eq_of_beq_eq_true hb])
   ·exact .inr (.inr (BT.find_mem h))
theorem BT.all_node {α:Type} {p:Nat→α→Bool} {k:Nat} {v:α} {l r:BT α} (h:p k v=true) (hl:l.all p=true) (hr:r.all p=true):(BT.node k v l r).all p=true:=by
 simp only [BT.all,h,hl,hr,Bool.and_self]
abbrev Mem:=List (FuncId×List PV×PV)
def wK:Mem→FuncId→List PV→Option PV
 | [],_,_=>none
 | (g,awx,v)::r,f,args=>match Nat.beq g f with
  | true=>match xQ awx args with
   | true=>some v
   | false=>wK r f args
  | false=>wK r f args
def Jq (T:FuncId→Option IF) (H:gk) (mem:Mem):Nat→bY
 | 0,_,_,_,_=>none
 | k+1,bars,f,args,σ=>match bars,σ,wK mem f args with
  | [],[],some v=>some (.ret v,[])
  | bars,σ,_=>LX T H (Jq T H mem k) (fun s x=>dB s k x) bars f args σ
def Jr (T:FuncId→Option IF) (H:gk):Mem→Prop
 | []=>True
 | (f,args,v)::r=>az T H [] f args []=some (.ret v,[])∧Jr T H r
theorem vQ {T:FuncId→Option IF} {H:gk}:∀ {mem:Mem} {f:FuncId} {args:List PV} {v:PV},Jr T H mem→wK mem f args=some v→az T H [] f args []=some (.ret v,[])
 | [],_,_,_,_,h=>by cases h
 | (g,awx,u)::r,f,args,v,hm,h=>by
  simp only [wK] at h
  split at h
  ·rename_i hg
   split at h
   ·rename_i ha
    cases h
    obtain rfl:=Nat.eq_of_beq_eq_true hg
    obtain rfl:=pJ _ _ ha
    exact hm.1
   ·exact vQ hm.2 h
  ·exact vQ hm.2 h
theorem Bj {T:FuncId→Option IF} {H:gk} {mem:Mem} (hm:Jr T H mem):∀ k,LeS (Jq T H mem k) (az T H)
 | 0=>fun _ _ _ _ _ h=>by cases h
 | k+1=>fun bars f args σ r hr=>by
  unfold Jq at hr
  split at hr
  ·rename_i v hv
   cases hr
   exact vQ hm hv
  ·rw [uX]
   exact xK (sV (Bj hm k)) (Ga k) _ _ _ _ _ (LY (fun s t h=>j8 h k k (Nat.le_refl _)) hr)
theorem qn {T:FuncId→Option IF} {H:gk} {mem:Mem} (hm:Jr T H mem) {k:Nat} {bars f args σ r} (h:Jq T H mem k bars f args σ=some r):az T H bars f args σ=some r:=Bj hm k _ _ _ _ _ h
end Go.Ev

namespace Go.Ev
section
variable {P:Program}
end
end Go.Ev

namespace Go.Ev
open Go.RowKit
def Ig (a:Int):List Int→List Int
 | []=>[a]
 | b::r=>if a≤b then a::b::r else b::Ig a r
def gp:List Int→List Int
 | []=>[]
 | a::r=>Ig a (gp r)
theorem xT (a:Int):∀ l,(Ig a l).Perm (a::l)
 | []=>.refl _
 | b::r=>by
  unfold Ig
  split
  ·exact .refl _
  ·exact ((xT a r).cons b).trans (.swap a b r)
theorem gM:∀ l,(gp l).Perm l
 | []=>.refl _
 | a::r=>(xT a _).trans ((gM r).cons a)
theorem zj (a:Int):∀ l,l.Pairwise (·≤·)→(Ig a l).Pairwise (·≤·)
 | [],_=>by simp [Ig]
 | b::r,h=>by
  rw [List.pairwise_cons] at h
  unfold Ig
  split
  ·rename_i hab
   refine List.pairwise_cons.2 ⟨fun c hc=>?_,List.pairwise_cons.2 h⟩
   rcases List.mem_cons.1 hc with rfl|hc
   ·exact hab
   ·exact Int.le_trans hab (h.1 c hc)
  ·rename_i hab
   refine List.pairwise_cons.2 ⟨fun c hc=>?_,zj a r h.2⟩
   rcases List.mem_cons.1 ((xT a r).mem_iff.1 hc) with rfl|hc
   ·omega
   ·exact h.1 c hc
theorem sW:∀ l,(gp l).Pairwise (·≤·)
 | []=>.nil
 | a::r=>zj a _ (sW r)
theorem CV:∀ {a b:List Int},a.Perm b→a.Pairwise (·≤·)→b.Pairwise (·≤·)→a=b:=by
 intro a b h ha hb
 exact h.eq_of_pairwise (fun x y _ _ h1 h2=>Int.le_antisymm h1 h2) ha hb
theorem zv {ss ks:List Int} (h:ss.Perm ks):(ss.mergeSort fun x y=>decide (x≤y))=gp ks:=by
 refine CV ((List.mergeSort_perm _ _).trans (h.trans (gM ks).symm)) ?_ (sW ks)
 refine (List.pairwise_mergeSort (fun a b c=>?_) (fun a b=>?_) ss).imp (by simp)
 ·simp only [decide_eq_true_eq]; exact fun h1 h2=>Int.le_trans h1 h2
 ·simp only [Bool.or_eq_true,decide_eq_true_eq]; exact Int.le_total a b
def Bk:List (Value×PV)→Option (List Int)
 | []=>some []
 | (.int .i64 n,_)::r=>(Bk r).bind fun l=>some (n::l)
 | _=>none
def ue (n:Int):Bool:=decide (-9223372036854775808≤n∧n≤9223372036854775807)
def xU:List Int→Bool
 | []=>true
 | a::r=>!(r.contains a) && xU r
theorem Bl:∀ l,xU l=true→l.Nodup
 | [],_=>.nil
 | a::r,h=>by
  simp only [xU,Bool.and_eq_true,Bool.not_eq_true',List.contains_eq_mem,decide_eq_false_iff_not] at h
  exact List.nodup_cons.2 ⟨h.1,Bl r h.2⟩
def uY (g:FuncId):List PV→Sto→Option (Out×Sto)
 | [.fn (.func f) [.ptr id 0]],σ=>if f=g then match σ[id]? with
  | some (.var [.map j])=>match σ[j]? with
   | some (.mp m)=>(Bk m).bind fun ks=>if xU ks && ks.all ue && decide (ks.length≤LIM) then some (.ret (.sl false ((gp ks).map fun n=>[.i n])),σ) else none
   | _=>none
  | _=>none
  else none
 | _,_=>none
section
variable {P:Program}
theorem INV.known [CodeRel] {bars:List Nat} {κ:Kn} {σ:Sto} {w w':World} (hi:INV bars κ σ w) (hb:Below w.heap.size w w') (g:Nat) (hg:w.heap.size≤g) (f:Nat→Option Value) (hf:∀ o v,f o=some v→w'.cell? ⟨g,o,none⟩=some v) :
  INV bars { κ with M:=fun b o=>if b=g then f o else κ.M b o } σ w'∧Kept σ.length κ σ w { κ with M:=fun b o=>if b=g then f o else κ.M b o } σ w':=by
 have hne:∀ {b:Nat},b<w.heap.size→b≠g:=fun h e=>by omega
 have hext:Ext σ.length κ { κ with M:=fun b o=>if b=g then f o else κ.M b o }:=by
  refine ⟨fun _ _ _=>rfl,fun _ _=>rfl,fun _ _=>Nat.le_refl _,fun _ _ _=>rfl,fun b o v h=>?_,fun _=>Nat.le_refl _⟩
  have:=oc (hi.mem b o v h)
  simp only [if_neg (hne this)]; exact h
 refine ⟨⟨fun i ob hs=>?_,hi.inj,fun b o v h=>?_,fun b hc=>?_,hi.wf,hi.wfb⟩,⟨hext,hb.size,fun b hlt _=>hb.block b hlt,fun i b h=>.inl ⟨i,h⟩,fun b o v h=>?_,hb.os,hb.output,hb.tape⟩⟩
 ·refine obRel.keep hext (List.getElem?_eq_some_iff.1 hs).1 rfl (hi.wf i ob hs) (fun b hblk=>?_) (hi.obs i ob hs)
  have hlt:=o8 hi (by rw [dx hs]; exact hblk)
  exact ⟨hb.block b hlt,fun o=>by simp only [if_neg (hne hlt)]⟩
 ·simp only at h
  split at h
  ·rename_i he; subst he; exact hf o v h
  ·have h1:=hi.mem b o v h
   rw [← h1]
   exact hb.cell (p:=⟨b,o,none⟩) (oc h1)
 ·obtain ⟨c,T,fr,hd,hsz⟩:=hi.cap b hc
  exact ⟨c,T,fr,by rw [hb.block b (Array.getElem?_eq_some_iff.1 hd).1]; exact hd,hsz⟩
 ·simp only at h
  split at h
  ·rename_i he; subst he; exact .inr (.inr hg)
  ·exact .inl h
theorem Bn {κ:Kn} [CodeRel]:∀ {m:List (Value×PV)} {l:List MapEntry} {ks:List Int},Bk m=some ks→RelEnts κ m l→l.map (·.key)=ks.map (Value.int .i64)
 | [],l,ks,h,hr=>by
  simp only [Bk,Option.some.injEq] at h
  simp only [RelEnts] at hr
  subst h; subst hr; rfl
 | (k,v)::m,l,ks,h,hr=>by
  unfold Bk at h
  split at h
  ·rename_i he; cases he
  ·rename_i n v' r he
   cases he
   simp only [Option.bind_eq_some_iff,Option.some.injEq] at h
   obtain ⟨ks',h1,rfl⟩:=h
   simp only [RelEnts] at hr
   obtain ⟨e,l',rfl,hk,-,hr⟩:=hr
   simp only [List.map_cons,Bn h1 hr,hk]
  ·cases h
theorem DW {κ:Kn} {g:Nat}:∀ (l:List Int) (o:Nat),(∀ j n,l[j]? = some n→κ.M g (o+j)=some (.int .i64 n))→RelE κ 1 g o (l.map fun n=>[PV.i n])
 | [],o,_=>by simp [RelE]
 | a::r,o,h=>by
  simp only [List.map_cons,RelE]
  refine ⟨rfl,?_,DW r (o+1) fun j n hj=>?_⟩
  ·simp only [RelM]
   exact ⟨⟨_,h 0 a rfl,rfl,by simp [RelV]⟩,trivial⟩
  ·have:=h (j+1) n (by simpa using hj)
   rw [show o+1+j=o+(j+1) by omega]; exact this
theorem zk (n:Nat):∀ l:List Int,below.belowEs n (l.map fun n=>[PV.i n])=true
 | []=>rfl
 | a::r=>by simp [below.belowEs,below.belowAll,below,zk n r]
theorem Ih {f g:FuncId} (hf:eO P f)
  (h:∀ (Bm b:Nat) (T:TypeId) (es:Array MapEntry) (clock:Nat) (ks:List Int) (w:World),w.heap[Bm]? = some (.cells #[.map (some b)] T (0,0))→w.heap[b]? = some (.map es clock)→es.toList.map (·.key)=ks.map (Value.int .i64)→ks.Nodup→(∀ n∈ks,ue n=true)→ks.length≤LIM→Born es.toList clock →
   Calls P f #[.func (.func g) #[] #[.pointer (some ⟨Bm,0,none⟩)]] w fun e w'=>∃ v T',e=.returned v∧w'.ownsRow w.heap.size T' 1 v ks.length ((gp ks).map (Value.int .i64))∧Below w.heap.size w w')
  (args:List PV) (σ:Sto) (r:Out×Sto) (hr:uY g args σ=some r) :
  eO P f∧∀ bars κ w (xs:Array Value),@INV (CR P) bars κ σ w→RelL κ args xs.toList→below.belowAll σ.length args=true→Calls P f xs w (@jG (CR P) bars κ σ w r):=by
 letI:CodeRel:=CR P
 refine ⟨hf,fun bars κ w xs hi hrel hb=>?_⟩
 unfold uY at hr
 split at hr
 ·rename_i f' id
  split at hr
  ·rename_i hfg
   subst hfg
   split at hr
   ·rename_i j hsi
    split at hr
    ·rename_i m hsj
     simp only [Option.bind_eq_some_iff] at hr
     obtain ⟨ks,hks,hr⟩:=hr
     split at hr
     ·rename_i hc
      simp only [Bool.and_eq_true,List.all_eq_true,decide_eq_true_eq] at hc
      obtain ⟨⟨hnd,hfi⟩,hlim⟩:=hc
      cases hr
      obtain ⟨v1,v2,⟨c,T,v3,v4,-⟩,-⟩:=hi.obs id _ hsi
      obtain ⟨m1,es,clock,m2,m3,m4⟩:=hi.obs j _ hsj
      simp only [RelL,RelV] at hrel v4
      obtain ⟨x,l',e1,⟨vs,rfl,y,l2,e2,⟨q,rfl,-,hq⟩,rfl⟩,rfl⟩:=hrel
      obtain ⟨z,l3,e3,⟨q',rfl,-,hq'⟩,rfl⟩:=v4
      have hq:=hq v1
      rw [v2] at hq
      subst hq
      have hq':=hq' m1
      subst hq'
      have hc0:c=#[.map (some (κ.ρ j).1)]:=Array.toList_inj.1 (by simpa using e3)
      have hvs:vs=#[.pointer (some ⟨(κ.ρ id).1,0,none⟩)]:=Array.toList_inj.1 (by simpa using e2)
      subst hc0
      subst hvs
      have hx:xs=#[.func (.func f') #[] #[.pointer (some ⟨(κ.ρ id).1,0,none⟩)]]:=Array.toList_inj.1 (by simpa using e1)
      rw [hx]
      refine (h (κ.ρ id).1 (κ.ρ j).1 T es clock ks w v3 m2 (Bn hks m3) (Bl ks hnd) hfi hlim m4).mono ?_
      rintro e w' ⟨v,T',rfl,hrow,hbel⟩
      have hlen:(gp ks).length=ks.length:=(gM ks).length_eq
      rcases hrow.2 with ⟨rfl,hz⟩|⟨gb,cap,cur,rfl,hbase,hgb,r1,r2,r3,r4⟩
      ·have h0:gp ks=[]:=List.eq_nil_of_length_eq_zero (by omega)
       obtain ⟨i1,i2⟩:=INV.known hi hbel w.heap.size (Nat.le_refl _) (fun _=>none) (fun _ _ h=>by cases h)
       refine ⟨_,i1,i2,Nat.le_refl _,_,rfl,?_,?_⟩
       ·rw [h0]; simp only [RelV]; exact ⟨none,0,1,rfl,by simp,by simp,by simp⟩
       ·rw [h0]; rfl
      ·obtain ⟨i1,i2⟩:=INV.known hi hbel gb hbase (fun o=>((gp ks)[o]?).map (Value.int .i64)) (fun o v hv=>by
        simp only [Option.map_eq_some_iff] at hv
        obtain ⟨n,hn,rfl⟩:=hv
        have hlt:=(List.getElem?_eq_some_iff.1 hn).1
        have:cur.toList[o]? = some (.int .i64 n):=by
         have h4:=congrArg (fun l=>l[o]?) r4
         simp only [List.getElem?_take,List.getElem?_map,hn] at h4
         rw [if_pos (by omega)] at h4
         exact h4
        simp only [World.cell?,hgb]
        simpa using this)
       refine ⟨_,i1,i2,Nat.le_refl _,_,rfl,?_,by simp only [below]; exact zk _ _⟩
       simp only [RelV]
       refine ⟨_,cap,1,by rw [List.length_map,hlen],by rw [List.length_map,hlen]; exact r1,by simp,fun _=>⟨gb,0,rfl,DW _ 0 fun j n hj=>?_⟩⟩
       simp [hj]
     ·cases hr
    ·cases hr
   ·cases hr
  ·cases hr
 ·cases hr
end
end Go.Ev

namespace Go.Ev
open Go.RowKit Go.Maps Go.WideElems
def RU:Value→Option (DataW Unit×List MemPlace):=fun _=>some (.nil,[])
theorem L1 {n:Int} (h:ue n=true):(Lit.int .i64 n).wf=true:=by
 simp only [ue,decide_eq_true_eq] at h
 simp [Lit.wf,IntKind.min,IntKind.max,IntKind.signed,IntKind.bits]
 omega
theorem Qx {P:Program} {k:TypeId} (hk:P.underlying k=some (.int .i64)) {x:MapEntry} {n:Int} (hx:x.key=.int .i64 n) (hf:ue n=true):rd P k RU x=some (.int .i64 n,.nil):=by
 have:=L1 hf
 simp [rd,RU,keyOf,hk,mapKey,hx,this]
theorem DX {P:Program} {k:TypeId} (hk:P.underlying k=some (.int .i64)):∀ (l:List MapEntry) (ks:List Int),l.map (·.key)=ks.map (Value.int .i64)→(∀ n∈ks,ue n=true) →
  (∀ x∈l,∃ y,rd P k RU x=some y)∧(l.map (rg P k RU)).map (fun p=>intOf p.1)=ks
 | [],[],_,_=>⟨by simp,rfl⟩
 | [],_::_,h,_=>by simp at h
 | _::_,[],h,_=>by simp at h
 | x::l,n::ks,h,hf=>by
  simp only [List.map_cons,List.cons.injEq] at h
  obtain ⟨h1,h2⟩:=DX hk l ks h.2 fun m hm=>hf m (by simp [hm])
  have h3:=Qx hk h.1 (hf n (by simp))
  refine ⟨fun y hy=>?_,?_⟩
  ·rcases List.mem_cons.1 hy with rfl|hy
   ·exact ⟨_,h3⟩
   ·exact h1 y hy
  ·have h4:rg P k RU x=(.int .i64 n,.nil):=by simp only [rg,h3,Option.getD_some]
   rw [List.map_cons,List.map_cons,h2,h4]
   rfl
theorem Ii {P:Program} {k:TypeId} (hk:P.underlying k=some (.int .i64)) {es:Array MapEntry} {clock:Nat} {ks:List Int} (h:es.toList.map (·.key)=ks.map (Value.int .i64)) (hnd:ks.Nodup) (hf:∀ n∈ks,ue n=true) (hl:ks.length≤LIM) (hb:Born es.toList clock)
  {w:World} {b:Nat} (hw:w.heap[b]? = some (.map es clock)):∃ D0:DataW Unit,w.ownsMap P k RU b ks.length D0∧(intKeys D0).Perm ks∧Maps.size D0=ks.length:=by
 obtain ⟨h1,h2⟩:=DX (P:=P) hk es.toList ks h hf
 have hlen:es.size=ks.length:=by
  have:=congrArg List.length h
  simpa using this
 refine ⟨.map ((es.toList.map (rg P k RU)).foldr DataW.insert []),⟨es,clock,hw,⟨by rw [hlen]; unfold LIM at hl; unfold maxLen; omega,⟨hb.1,hb.2,?_⟩,h1⟩,by omega,rfl⟩,?_,?_⟩
 ·rw [h]
  exact hnd.map (Value.int .i64) (fun a b hab e=>hab (by cases e; rfl))
 ·have:=(Go.WideShapes.sorted_perm (es.toList.map (rg P k RU))).map (fun p=>intOf p.1)
  rw [h2] at this
  exact this
 ·have:=(Go.WideShapes.sorted_perm (es.toList.map (rg P k RU))).length_eq
  simp only [Maps.size,this,List.length_map,Array.length_toList,hlen]
end Go.Ev

namespace Go.Ev
open Go.ChangeShapes Go.WideShapes Go.RowKit
theorem INV.start [CodeRel] (w:World):INV [] (Kn.start w) [] w :=
 ⟨fun i ob hs=>by simp at hs,fun i j b hi=>by simp [own] at hi,fun b o v h=>h,fun b h=>absurd h (Nat.lt_irrefl 0),fun i ob hs=>by simp at hs,fun n hn=>by cases hn⟩
section
variable {H:Type} {enc:TypeId×Value→H} {P:Program}
theorem HasTy.below:∀ (n:Nat) (t:TypeId) (cs:List PV),HasTy P n t cs→below.belowAll 0 cs=true
 | 0,t,cs,h=>by simp [HasTy] at h
 | n+1,t,cs,h=>by
  have tys:∀ (ts:List TypeId) (cs:List PV),Tys (HasTy P n) ts cs→below.belowAll 0 cs=true:=by
   intro ts
   induction ts with
   | nil=>intro cs h; simp only [Tys] at h; subst h; rfl
   | cons t ts ih =>
    intro cs h
    obtain ⟨a,b,rfl,h1,h2⟩:=h
    rw [cE,HasTy.below n t a h1,ih b h2]; rfl
  have es:∀ (e:TypeId) (es:List (List PV)),(∀ x∈es,HasTy P n e x)→below.belowEs 0 es=true:=by
   intro e es
   induction es with
   | nil=>intro _; rfl
   | cons x r ih=>intro h; simp only [below.belowEs,HasTy.below n e x (h x (by simp)),ih fun y hy=>h y (by simp [hy])]; rfl
  unfold HasTy at h
  split at h
  ·obtain ⟨b,rfl⟩:=h; rfl
  ·obtain ⟨m,rfl,-⟩:=h; rfl
  ·obtain ⟨s,rfl,-⟩:=h; rfl
  ·obtain ⟨l,rfl,-,h⟩:=h
   simp only [below.belowAll,Ev.below,es _ _ h]; rfl
  ·exact tys _ _ h
  ·exact h.elim
theorem HasTysV.below {n:Nat}:∀ (ts:List TypeId) (ps:List PV),HasTysV P n ts ps→below.belowAll 0 ps=true
 | [],[],_=>rfl
 | [],_::_,h=>h.elim
 | _::_,[],h=>h.elim
 | t::ts,p::ps,h=>by
  obtain ⟨⟨cs,h1,h2⟩,h3⟩:=h
  have hb:=HasTy.below n t cs h1
  have hp:Ev.below 0 p=true:=by
   split at h2
   ·subst h2; simpa only [Ev.below] using hb
   ·subst h2; simpa only [below.belowAll,Bool.and_true] using hb
  simp only [below.belowAll,hp,HasTysV.below ts ps h3]; rfl
theorem vu (hl:laidOutB P=true) {W W':World} (hb:Below W.heap.size W W'):∀ {ts:List TypeId} {vs:List Value} {ds:List (DataW H)} {ps:List MemPlace},(∀ t∈ts,P.readableRec t=true∧t<P.types.size) →
  DataW.TrodAll enc P W 0 (fun _=>true) true ts vs ds ps→(∀ x∈ps,x.block<W.heap.size)→DataW.TrodAll enc P W' 0 (fun b=>decide (b<W.heap.size)) true ts vs ds ps
 | [],vs,ds,ps,_,h,_=>by
  obtain ⟨rfl,rfl,rfl⟩:=trodAll_nil h
  exact trodAll_mk0
 | t::ts,vs,ds,ps,ht,h,hlt=>by
  obtain ⟨v,vs1,d,ds1,a,b,rfl,rfl,rfl,h1,h2⟩:=trodAll_cons h
  exact ⟨a,b,Below.trod hl (ht t (by simp)).1 (ht t (by simp)).2 h1 hb (fun x hx=>hlt x (by simp [hx])),vu hl hb (fun u hu=>ht u (by simp [hu])) h2 (fun x hx=>hlt x (by simp [hx])),rfl⟩
theorem Qy {calls:bY} (hc:@dL (CR P) P calls) {f:FuncId} {fn:Func} (hf:f<YB) {s:ChangeSpec} (hl:laidOutB P=true) {S:List TypeId} (hS:Jm P S=true) (hpS:∀ t∈fn.params.toList,t∈S)
  (hts:∀ t∈fn.params.toList,P.readableRec t=true∧t<P.types.size) (hvars:s.vars=[]) {tb:TypeId} (hres:fn.resultTypes=#[tb]) (htb:P.underlying tb=some .bool)
  (hfn:∀ ds:List (DataW H),ds.length=fn.params.size→s.fn H ds={ results:=[.lit (.bool true)],args:=ds })
  (hrun:∀ n pvs,HasTysV P n fn.params.toList pvs→calls [] f pvs []=some (.ret (.b true),[])) {apart fresh handsOn:Bool}
  {W:World} {base:Nat} {args:Array Value} {ds gs:List (DataW H)} {before:List MemPlace}
  (cD:∀ (j:Nat) t v,fn.params[j]? = some t→args[j]? = some v→Value.okWide P W .any base t v)
  (hW:DataW.Whole enc P fn.params.toList s.vars apart W args.toList ds gs before) :
  Calls P f args W fun e W'=>∃ v,e=.returned v∧s.post enc P fn apart fresh handsOn false W args v W':=by
 letI:CodeRel:=CR P
 have hW':=hW
 obtain ⟨p,q,hA,hV,rfl,hfz,hnd⟩:=hW
 rw [hvars] at hV
 obtain ⟨rfl,rfl⟩:=trodVars_none hV
 obtain ⟨n,pvs,h1,h2⟩:=Jo (enc:=enc) (w:=W) (spare:=fun _=>true) hS fn.params.toList args.toList ds p hpS (fun j t v ht hv=>cD j t v (by simpa using ht) (by simpa using hv)) hA
 have hlen:ds.length=fn.params.size:=by
  have:∀ (ts:List TypeId) (vs:List Value) (ds:List (DataW H)) (ps:List MemPlace),DataW.TrodAll enc P W 0 (fun _=>true) true ts vs ds ps→ds.length=ts.length:=by
   intro ts
   induction ts with
   | nil=>intro vs ds ps h; obtain ⟨rfl,rfl,rfl⟩:=trodAll_nil h; rfl
   | cons t ts ih=>intro vs ds ps h; obtain ⟨v,vs1,d,ds1,a,b,rfl,rfl,rfl,-,h2⟩:=trodAll_cons h; simp [ih _ _ _ h2]
  simpa using this _ _ _ _ hA
 have hbel:below.belowAll ([]:Sto).length pvs=true:=HasTysV.below _ _ h1
 have hcall:=(((hc [] f pvs [] _ (hrun n pvs h1)).2 (Kn.start W) W args (INV.start W) h2 hbel).1 hf)
 refine hcall.mono fun e W' hp=>?_
 obtain ⟨κ',g1,g2,g3,x,rfl,hx,-⟩:=hp
 have hx':x=.bool true:=hx
 subst hx'
 refine ⟨_,rfl,?_⟩
 have hb:Below W.heap.size W W':=⟨g2.os,g2.tape,g2.output,g2.size,fun k hk=>g2.keep k hk (fun i hi=>by simp [own] at hi)⟩
 have hlt:∀ x∈p,x.block<W.heap.size:=fun x hx=>by simpa using hW'.lt x (by simpa using hx)
 refine ⟨ds,[],p++[],[],p,[],hW',?_,?_,?_,?_,fun h=>by cases h⟩
 ·rw [List.append_nil,hfn ds hlen,hres]
  exact trodAll_mk1 (shut_bool htb _)
 ·rw [List.append_nil,hfn ds hlen]
  exact vu hl hb hts hA hlt
 ·rw [hvars,List.append_nil,hfn ds hlen]
  exact rfl
 ·exact hb.frame _
end
end Go.Ev
