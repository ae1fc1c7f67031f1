/- New metavariables for a class's TPis: without a program. -/
import Derived.Test.YtfbichemhllhbaaGreatEvG
set_option linter.unnecessarySimpa false
set_option linter.unusedVariables false
set_option linter.unusedSimpArgs false
set_option linter.unusedSectionVars false
namespace Go.Ev
theorem Ee:∀ t:Tm,∀ d:Int,t.formed d=true→t.nodes≤4000→∀ s,t.smp=some s→s.ok∧s.cons≤t.nodes∧s.args.length≤t.nodes∧s.fits=true :=
 Tm.ind fun t ih d hf hn s hs=>by
  by_cases h2:t.op=2
  ·obtain ⟨a,b,hab,ha,hb⟩:=cz hf h2
   rw [IE h2 hab] at hs
   have hnn:t.nodes=1+(a.nodes+b.nodes):=by rw [en,hab]; simp [Tm.nodesL]
   cases hx:a.smp with
   | none=>rw [hx] at hs; cases hs
   | some x =>
    cases hy:b.smp with
    | none=>rw [hx,hy] at hs; cases hs
    | some y =>
     rw [hx,hy] at hs
     simp only [Option.bind_some,Option.some.injEq] at hs
     subst hs
     obtain ⟨x1,x2,x3,x4⟩:=ih a (by rw [hab]; simp) (d+1) ha (by omega) x hx
     obtain ⟨y1,y2,y3,y4⟩:=ih b (by rw [hab]; simp) (d+1) hb (by omega) y hy
     have hcy:=oK y
     refine ⟨?_,?_,by simp only [Sp.args_mk,List.length_cons]; omega,?_⟩
     ·cases y1 with
      | mk h0 h1 ha' =>
       refine ⟨h0,by simp only [Sp.args_mk,List.length_cons]; unfold maxLen; omega,fun z hz=>?_⟩
       rcases List.mem_cons.1 hz with rfl|hz
       ·exact x1
       ·exact ha' z hz
     ·rw [oK]; simp only [Sp.args_mk,Sp.consL]; omega
     ·rw [yz] at y4 ⊢
      simp only [Sp.args_mk,Sp.con_mk,Sp.fitsL,x4,Bool.true_and]
      exact y4
  ·by_cases h4:t.op=4∧t.hd=2
   ·rw [Fm h4.1 h4.2] at hs
    simp only [Option.some.injEq] at hs
    subst hs
    have h5:=jq (fw hf) h4.1
    have:=yo t
    refine ⟨⟨by simp only [Sp.con_mk]; unfold I64; omega,by simp [maxLen],by simp⟩,by rw [oK]; simp [Sp.consL]; omega,by simp,?_⟩
    rw [yz]
    simp [Sp.fitsL,h5.2.2.1,h5.2.2.2]
   ·rw [IG h2 h4] at hs; cases hs
theorem iG {t:Tm} (hp:t.proper=true) {s:Sp} (hs:t.smp=some s):s.ok∧s.cons≤600∧s.small=true:=by
 have hn:=aI hp
 obtain ⟨h1,h2,h3,h4⟩:=Ee t 1 (ar hp) (by omega) s hs
 exact ⟨h1,by omega,by simp [Sp.small,h4]; omega⟩
def aK (n:Nat) (a:Tm):Int×Tm :=
 if 80≤n then (5,tz) else
 if cY 1 (a.nds 0) []≠[] then (27,tz) else
 match a.smp with
 | none=>(22,tz)
 | some s=>if (eH s 3 n).proper then (0,eH s 3 n) else (5,tz)
def cu (c x:Tm):Int×Tm :=
 if c.op≠2 then (23,tz) else match c.args with
 | [a,b]=>match a.smp with
  | none=>(22,tz)
  | some s=>if (aN 20000 b 0 x s 0).2.1=0 then (0,(aN 20000 b 0 x s 0).2.2) else ((aN 20000 b 0 x s 0).2.1,tz)
 | _=>(23,tz)
def Tm.dom (c:Tm):Tm:=c.args.getD 0 tz
def Tm.bod (c:Tm):Tm:=c.args.getD 1 tz
def cJ (n:Nat) (c:Tm):Int×Tm×Tm :=
 if (aK n c.dom).1≠0 then ((aK n c.dom).1,tz,tz) else
 ((cu c (aK n c.dom).2).1,(aK n c.dom).2,(cu c (aK n c.dom).2).2)
def cX:Nat→List Tm→List Tm→Tm→Int×List Tm×List Tm×Tm
 | 0,C,l,c=>(0,C,l,c)
 | k+1,C,l,c=>if c.op≠2 then (23,[],[],tz) else
  if (cJ C.length c).1≠0 then ((cJ C.length c).1,[],[],tz) else
  cX k (C++[c.dom]) (l++[(cJ C.length c).2.1]) (cJ C.length c).2.2
def gm:List Bool→List Tm→Tm→Int×List Tm×Tm
 | [],C,c=>(0,C,c)
 | true::r,C,c=>if (cJ C.length c).1≠0 then ((cJ C.length c).1,[],tz) else gm r (C++[c.dom]) (cJ C.length c).2.2
 | false::r,C,c=>gm r C (c.bod.moved (-1) 0)
structure CM (C:List Tm):Prop where
 len:C.length≤80
 at_:∀ (i:Nat) (a:Tm),C[i]? = some a→a.ok∧a.proper=true∧cY 1 (a.nds 0) []=[]∧a.smp.isSome=true∧a.mb i=true
theorem qN:CM []:=⟨by simp,fun i a h=>by simp at h⟩
theorem sA {C:List Tm} (hC:CM C) {a:Tm} (ha:a.ok) (hp:a.proper=true) (hm:a.mb C.length=true) (he:(aK C.length a).1=0) :
  CM (C++[a])∧(aK C.length a).2.ok∧(aK C.length a).2.proper=true∧(aK C.length a).2.mb (C.length+1)=true∧C.length<80∧cY 1 (a.nds 0) []=[]∧∃ s,a.smp=some s∧(aK C.length a).2=eH s 3 C.length:=by
 unfold aK at he ⊢
 by_cases h1:80≤C.length
 ·simp [h1] at he
 by_cases h2:cY 1 (a.nds 0) []=[]
 ·simp only [h1,h2,ne_eq,not_true,if_false] at he ⊢
  cases hs:a.smp with
  | none=>simp [hs] at he
  | some s =>
   simp only [hs] at he ⊢
   obtain ⟨g1,g2,g3⟩:=iG hp hs
   by_cases h3:(eH s 3 C.length).proper=true
   ·simp only [h3,if_true]
    refine ⟨⟨by simp; omega,fun i x hx=>?_⟩,uD s g2 3 _ (by omega) (by omega) (by omega) (by omega),trivial,Nt _ s 3 _ (.inr (by omega)),by omega,trivial,s,rfl,rfl⟩
    rcases Nat.lt_trichotomy i C.length with h|h|h
    ·rw [List.getElem?_append_left h] at hx; exact hC.at_ i x hx
    ·subst h
     rw [List.getElem?_append_right (Nat.le_refl _),Nat.sub_self] at hx
     simp at hx; subst hx
     exact ⟨ha,hp,h2,by rw [hs]; rfl,hm⟩
    ·rw [List.getElem?_eq_none (by simp; omega)] at hx; cases hx
   ·simp [h3] at he
 ·simp [h1,h2] at he
theorem G3 {c x:Tm} (hc:c.ok) (hp:c.proper=true) (hx:x.ok) (hxp:x.proper=true) (he:(cu c x).1=0) :
  (cu c x).2.ok∧(cu c x).2.proper=true∧(∀ B,c.mb B=true→x.mb B=true→(cu c x).2.mb B=true)∧∀ E,Stab E→∀ d D,PC E (d::D) c→PC E D (cu c x).2:=by
 unfold cu at he ⊢
 by_cases h2:c.op=2
 ·obtain ⟨a,b,hab,ha,hb⟩:=cz (ar hp) h2
  simp only [h2,hab,ne_eq,not_true,if_false] at he ⊢
  cases hs:a.smp with
  | none=>simp [hs] at he
  | some s =>
   simp only [hs] at he ⊢
   have hap:a.proper=true:=aR hp (by rw [hab]; simp)
   obtain ⟨g1,g2,g3⟩:=iG hap hs
   by_cases h3:(aN 20000 b 0 x s 0).2.1=0
   ·simp only [h3,if_true]
    have hi:=jg 20000 b 0 x s 0 2 (hc.sub b (by rw [hab]; simp)) hb (by omega) (by omega) hx hxp g1 (by omega) (by omega) h3
    refine ⟨hi.ok,hi.pr,fun B hB hxB=>?_,fun E hE d D hD=>?_⟩
    ·rw [nK,Bool.and_eq_true] at hB
     exact Fr B 20000 b 0 x s 0 (mbL_mem.1 hB.2 b (by rw [hab]; simp)) hxB h3
    ·obtain ⟨a',b',_,hab',_,hr⟩:=hD
     rw [hab] at hab'
     simp only [List.cons.injEq,and_true] at hab'
     rw [← hab'.2] at hr
     exact Nq hE D 20000 b 0 x s 0 (by omega) hr h3
   ·simp [h3] at he
 ·simp [h2] at he
theorem uE {c a b:Tm} (h:c.args=[a,b]):c.dom=a∧c.bod=b:=by simp [Tm.dom,Tm.bod,h]
theorem sB {C:List Tm} (hC:CM C) {c:Tm} (hc:c.ok) (hp:c.proper=true) (hm:c.mb C.length=true) (h2:c.op=2) (he:(cJ C.length c).1=0) :
  (aK C.length c.dom).1=0∧(cu c (aK C.length c.dom).2).1=0∧CM (C++[c.dom])∧(cJ C.length c).2.1.ok∧(cJ C.length c).2.1.proper=true∧(cJ C.length c).2.1.mb (C.length+1)=true∧(cJ C.length c).2.2.ok∧(cJ C.length c).2.2.proper=true∧(cJ C.length c).2.2.mb (C.length+1)=true∧∀ E,Stab E→∀ d D,PC E (d::D) c→PC E D (cJ C.length c).2.2:=by
 obtain ⟨a,b,hab,ha,hb⟩:=cz (ar hp) h2
 obtain ⟨hd,hbo⟩:=uE hab
 unfold cJ at he ⊢
 rw [hd] at he ⊢
 by_cases h1:(aK C.length a).1=0
 ·simp only [h1,ne_eq,not_true,if_false] at he ⊢
  rw [nK,Bool.and_eq_true] at hm
  obtain ⟨f1,f2,f3,f4,f5,-⟩:=sA hC (hc.sub a (by rw [hab]; simp)) (aR hp (by rw [hab]; simp)) (mbL_mem.1 hm.2 a (by rw [hab]; simp)) h1
  obtain ⟨g1,g2,g3,g4⟩:=G3 hc hp f2 f3 he
  have hm':c.mb C.length=true:=by rw [nK,Bool.and_eq_true]; exact hm
  exact ⟨trivial,he,f1,f2,f3,f4,g1,g2,g3 _ (oL (by omega) c hm') f4,g4⟩
 ·simp [h1] at he
theorem IJ {E:Tm→Prop} (hE:Stab E) {c:Tm} (hc:c.ok) (hp:c.proper=true) {D:List Bool} (hD:PC E (false::D) c) :
  c.op=2∧occ c.bod 0=false∧c.bod.ok∧c.bod.proper=true∧(c.bod.moved (-1) 0).ok∧(c.bod.moved (-1) 0).proper=true∧(∀ B,c.mb B=true→(c.bod.moved (-1) 0).mb B=true)∧PC E D (c.bod.moved (-1) 0):=by
 obtain ⟨a,b,h2,hab,hv,hr⟩:=hD
 obtain ⟨hd,hbo⟩:=uE hab
 have hv:=hv rfl
 have hbp:b.proper=true:=aR hp (by rw [hab]; simp)
 have ho:occ b 0=false:=by rw [II]; exact hv
 rw [hbo]
 refine ⟨h2,ho,hc.sub b (by rw [hab]; simp),hbp,o0 b (hc.sub b (by rw [hab]; simp)) (-1) 0 1 (by omega) (by omega) (ar hbp),uA hbp ho,fun B hB=>?_,Nr hE D b 0 (by omega) hv hr⟩
 rw [Cj]
 rw [nK,Bool.and_eq_true] at hB
 exact mbL_mem.1 hB.2 b (by rw [hab]; simp)
theorem Cm:∀ (k:Nat) (C l:List Tm) (c:Tm),CM C→c.ok→c.proper=true→c.mb C.length=true→(∀ x∈l,x.ok∧x.proper=true∧x.mb C.length=true)→(cX k C l c).1=0 →
  CM (cX k C l c).2.1∧(∀ x∈(cX k C l c).2.2.1,x.ok∧x.proper=true∧x.mb (cX k C l c).2.1.length=true)∧(cX k C l c).2.2.1.length=l.length+k:=by
 intro k
 induction k with
 | zero=>intro C l c hC _ _ _ hl _; exact ⟨hC,hl,rfl⟩
 | succ k ih =>
  intro C l c hC hc hp hm hl he
  unfold cX at he ⊢
  by_cases h2:c.op=2
  ·by_cases h1:(cJ C.length c).1=0
   ·simp only [h2,h1,ne_eq,not_true,if_false] at he ⊢
    obtain ⟨-,-,f1,f2,f3,f4,g1,g2,g3,-⟩:=sB hC hc hp hm h2 h1
    have:=ih _ _ _ f1 g1 g2 (by simpa using g3) (fun x hx=>by
     rcases List.mem_append.1 hx with hx|hx
     ·exact ⟨(hl x hx).1,(hl x hx).2.1,oL (by simp; omega) x (hl x hx).2.2⟩
     ·simp at hx; subst hx; exact ⟨f2,f3,by simpa using f4⟩) he
    refine ⟨this.1,this.2.1,by rw [this.2.2]; simp; omega⟩
   ·simp [h1,h2] at he
  ·simp [h2] at he
theorem Fu {E:Tm→Prop} (hE:Stab E):∀ (D:List Bool) (C:List Tm) (c:Tm),CM C→c.ok→c.proper=true→c.mb C.length=true→PC E D c→(gm D C c).1=0 →
  CM (gm D C c).2.1∧(gm D C c).2.2.ok∧(gm D C c).2.2.proper=true∧(gm D C c).2.2.mb (gm D C c).2.1.length=true∧E (gm D C c).2.2:=by
 intro D
 induction D with
 | nil=>intro C c hC hc hp hm hD _; exact ⟨hC,hc,hp,hm,hD⟩
 | cons d r ih =>
  intro C c hC hc hp hm hD he
  cases d with
  | true =>
   unfold gm at he ⊢
   have h2:c.op=2:=by obtain ⟨a,b,h,_⟩:=hD; exact h
   by_cases h1:(cJ C.length c).1=0
   ·simp only [h1,ne_eq,not_true,if_false] at he ⊢
    obtain ⟨-,-,f1,f2,f3,f4,g1,g2,g3,g4⟩:=sB hC hc hp hm h2 h1
    exact ih _ _ f1 g1 g2 (by simpa using g3) (g4 E hE true r hD) he
   ·simp [h1] at he
  | false =>
   unfold gm at he ⊢
   obtain ⟨-,-,-,-,g1,g2,g3,g4⟩:=IJ hE hc hp hD
   exact ih _ _ hC g1 g2 (g3 _ hm) g4 he
end Go.Ev

namespace Go.Ev
theorem hval3 {x:Tm×Int} {m:Int}:cD 3 x=some m ↔ x.1.op=4∧x.1.hd=3∧x.1.n=m:=by
 unfold cD
 by_cases a:x.1.op=4<;>by_cases b:x.1.hd=3<;>simp [a,b]
theorem xe {x:Tm×Int} (h:¬ (x.1.op=4∧x.1.hd=3)):cD 3 x=none:=by
 unfold cD; rw [if_neg h]
theorem PF (t:Tm) (b c:Int):cD 3 (t,b)=cD 3 (t,c):=by unfold cD; simp
def MI (t:Tm) (m:Int):Prop:=∃ x∈t.nds 0,cD 3 x=some m
theorem xf {t:Tm} {d:Int} (hf:t.formed d=true) (hd:0<d) {B:Int} (hm:t.mb B=true) {x:Tm×Int} (hx:x∈t.nds 0) {m:Int} (h:cD 3 x=some m):0≤m∧m<B:=by
 obtain ⟨a,b,c⟩:=hval3.1 h
 have h1:=kA hf hd hx
 have h2:=jq h1.1 a
 rw [Fq B t 0,List.all_eq_true] at hm
 have h3:=hm x hx
 simp [mV,a,b] at h3
 omega
structure OL (C:List Tm) (l:List Int):Prop where
 nd:l.Nodup
 lt:∀ n∈l,0≤n∧n<C.length
 cl:∀ n∈l,∀ m,MI (C.getD n.toNat tz) m→m∈l
theorem r0 (C:List Tm):OL C []:=⟨List.nodup_nil,fun n h=>by simp at h,fun n h=>by simp at h⟩
def me (C:List Tm) (k:Nat) (l:List Int) (x:Tm×Int):List Int:=match cD 3 x with
 | some n=>if n∈l then l else KJ C k (C.getD n.toNat tz) l++[n]
 | none=>l
theorem u9 (C:List Tm) (k:Nat) (t:Tm) (l:List Int):KJ C (k+1) t l=(t.nds 0).foldl (me C k) l:=rfl
theorem G4 {C:List Tm} {k:Nat} {l:List Int} {x:Tm×Int} {n:Int} (h:cD 3 x=some n) (hn:n ∉ l):me C k l x=KJ C k (C.getD n.toNat tz) l++[n]:=by unfold me; rw [h]; simp only [hn,if_false]
theorem uF {C:List Tm} (hC:CM C) {n:Int} (h0:0≤n) (h1:n<C.length):∃ a,C[n.toNat]? = some a∧C.getD n.toNat tz=a∧a.ok∧a.proper=true∧cY 1 (a.nds 0) []=[]∧a.smp.isSome=true∧a.mb n=true:=by
 obtain ⟨a,ha,-,-⟩:=eQ (l:=C) (i:=n.toNat) (by omega)
 have:=hC.at_ _ _ ha
 refine ⟨a,ha,by rw [List.getD_eq_getElem?_getD,ha]; rfl,this.1,this.2.1,this.2.2.1,this.2.2.2.1,?_⟩
 have h:=this.2.2.2.2
 rwa [show ((n.toNat:Nat):Int)=n by omega] at h
theorem Cn {C:List Tm} (hC:CM C):∀ (B:Nat),B≤C.length→∀ (ns:List (Tm×Int)) (k:Nat) (l:List Int),B≤k→(∀ x∈ns,∀ m,cD 3 x=some m→0≤m∧m<B)→OL C l →
  OL C (ns.foldl (me C k) l)∧(∃ s,ns.foldl (me C k) l=l++s∧∀ n∈s,n<(B:Int))∧(∀ x∈ns,∀ m,cD 3 x=some m→m∈ns.foldl (me C k) l)∧∀ k',B≤k'→ns.foldl (me C k') l=ns.foldl (me C k) l:=by
 intro B
 induction B using Nat.strongRecOn with
 | _ B IH =>
 intro hB ns
 induction ns with
 | nil=>intro k l _ _ hl; exact ⟨hl,⟨[],by simp,by simp⟩,by simp,fun _ _=>rfl⟩
 | cons x r ih =>
  intro k l hk hns hl
  have hr:∀ y∈r,∀ m,cD 3 y=some m→0≤m∧m<B:=fun y hy=>hns y (List.mem_cons_of_mem _ hy)
  simp only [List.foldl_cons]
  have easy:∀ (hx:∀ k,me C k l x=l) (hm:∀ m,cD 3 x=some m→m∈l),
    OL C (r.foldl (me C k) (me C k l x))∧(∃ s,r.foldl (me C k) (me C k l x)=l++s∧∀ n∈s,n<(B:Int))∧(∀ y∈x::r,∀ m,cD 3 y=some m→m∈r.foldl (me C k) (me C k l x))∧∀ k',B≤k'→r.foldl (me C k') (me C k' l x)=r.foldl (me C k) (me C k l x):=fun hx hm=>by
   obtain ⟨h1,⟨s,h2,h2'⟩,h3,h4⟩:=ih k l hk hr hl
   simp only [hx]
   refine ⟨h1,⟨s,h2,h2'⟩,fun y hy m hm'=>?_,h4⟩
   rcases List.mem_cons.1 hy with rfl|hy
   ·rw [h2]; exact List.mem_append_left _ (hm m hm')
   ·exact h3 y hy m hm'
  cases hv:cD 3 x with
  | none=>exact easy (fun k=>by unfold me; rw [hv]) (fun m h=>by rw [hv] at h; cases h)
  | some n =>
   by_cases hn:n∈l
   ·exact easy (fun k=>by unfold me; rw [hv]; simp [hn]) (fun m h=>by rw [hv] at h; cases h; exact hn)
   ·obtain ⟨n0,n1⟩:=hns x (List.mem_cons_self ..) n hv
    obtain ⟨a,ha,hga,ao,ap,-,-,am⟩:=uF hC n0 (by omega)
    obtain ⟨k1,rfl⟩:∃ k1,k=k1+1:=⟨k - 1,by omega⟩
    obtain ⟨h1,⟨s,h2,h2'⟩,h3,h4⟩:=IH n.toNat (by omega) (by omega) (a.nds 0) k1 l (by omega) (fun y hy m hm=>by
     have:=xf (ar ap) (by omega) am hy hm; omega) hl
    have hS:me C (k1+1) l x=(a.nds 0).foldl (me C k1) l++[n]:=by rw [G4 hv hn,hga,u9]
    have hns:n ∉ l++s:=fun h=>by
     rcases List.mem_append.1 h with h|h
     ·exact hn h
     ·have:=h2' n h; omega
    have hl2:OL C ((a.nds 0).foldl (me C k1) l++[n]):=⟨by
      rw [List.nodup_append]
      refine ⟨h1.nd,by simp,fun y hy z hz=>?_⟩
      simp at hz; subst hz
      rintro rfl
      rw [h2] at hy; exact hns hy,fun y hy=>by
      rcases List.mem_append.1 hy with hy|hy
      ·exact h1.lt y hy
      ·simp at hy; subst hy; exact ⟨n0,by omega⟩,fun y hy m hm=>by
      rcases List.mem_append.1 hy with hy|hy
      ·exact List.mem_append_left _ (h1.cl y hy m hm)
      ·simp at hy; subst hy
       rw [hga] at hm
       obtain ⟨z,hz,hz'⟩:=hm
       exact List.mem_append_left _ (h3 z hz m hz')⟩
    obtain ⟨g1,⟨s',g2,g2'⟩,g3,g4⟩:=ih (k1+1) _ hk hr hl2
    rw [hS]
    refine ⟨g1,⟨s++n::s',by rw [g2,h2]; simp,fun y hy=>?_⟩,fun y hy m hm=>?_,fun k' hk'=>?_⟩
    ·rcases List.mem_append.1 hy with hy|hy
     ·have:=h2' y hy; omega
     ·rcases List.mem_cons.1 hy with rfl|hy
      ·exact n1
      ·exact g2' y hy
    ·rcases List.mem_cons.1 hy with rfl|hy
     ·rw [hv] at hm; cases hm
      rw [g2]; simp
     ·exact g3 y hy m hm
    ·obtain ⟨k2,rfl⟩:∃ k2,k'=k2+1:=⟨k' - 1,by omega⟩
     have:me C (k2+1) l x=(a.nds 0).foldl (me C k1) l++[n]:=by
      rw [G4 hv hn,hga,u9,h4 k2 (by omega)]
     rw [this]
     exact g4 _ hk'
def kC (C:List Tm) (t:Tm) (l:List Int):List Int:=KJ C 81 t l
theorem JF (C:List Tm) (t:Tm) (l:List Int):kC C t l=(t.nds 0).foldl (me C 80) l:=by unfold kC; exact u9 C 80 t l
theorem PG (C:List Tm) (t:Tm) (l:List Int):KJ C 80 t l=(t.nds 0).foldl (me C 79) l:=u9 C 79 t l
def gX (C:List Tm) (l:List Int) (x:Tm×Int):List Int:=match cD 3 x with
 | some n=>if n∈l then l else kC C (C.getD n.toNat tz) l++[n]
 | none=>l
theorem RT {C:List Tm} (hC:CM C) {l:List Int} (hl:OL C l) {x:Tm×Int} (hx:∀ m,cD 3 x=some m→0≤m∧m<C.length):me C 80 l x=gX C l x:=by
 unfold me gX
 cases hv:cD 3 x with
 | none=>rfl
 | some n =>
  obtain ⟨n0,n1⟩:=hx n hv
  obtain ⟨a,ha,hga,ao,ap,-,-,am⟩:=uF hC n0 n1
  simp only []
  split
  ·rfl
  ·have h80:=hC.len
   rw [hga,JF,PG,(Cn hC n.toNat (by omega) (a.nds 0) 79 l (by omega) (fun y hy m hm=>by
     have:=xf (ar ap) (by omega) am hy hm; omega) hl).2.2.2 80 (by omega)]
theorem Qm {C:List Tm} (hC:CM C):∀ (ns:List (Tm×Int)) (l:List Int),(∀ x∈ns,∀ m,cD 3 x=some m→0≤m∧m<C.length)→OL C l→ns.foldl (me C 80) l=ns.foldl (gX C) l:=by
 intro ns
 have h80:=hC.len
 induction ns with
 | nil=>intro l _ _; simp only [List.foldl_nil]
 | cons x r ih =>
  intro l hns hl
  have hx:=hns x (List.mem_cons_self ..)
  have h1:=(Cn hC C.length (Nat.le_refl _) [x] 80 l h80 (fun y hy=>by simp at hy; subst hy; exact hx) hl).1
  simp only [List.foldl_cons,List.foldl_nil] at h1 ⊢
  rw [ih _ (fun y hy=>hns y (List.mem_cons_of_mem _ hy)) h1,RT hC hl hx]
theorem sC {C:List Tm} (hC:CM C):∀ (ns:List (Tm×Int)) (B:Nat) (l:List Int),B≤C.length→(∀ x∈ns,∀ m,cD 3 x=some m→0≤m∧m<B)→OL C l →
  OL C (ns.foldl (gX C) l)∧(∃ s,ns.foldl (gX C) l=l++s∧∀ n∈s,n<(B:Int))∧(∀ x∈ns,∀ m,cD 3 x=some m→m∈ns.foldl (gX C) l):=by
 intro ns B l hB hns hl
 have h80:=hC.len
 obtain ⟨h1,h2,h3,-⟩:=Cn hC B hB ns 80 l (by omega) hns hl
 rw [Qm hC ns l (fun x hx m hm=>by have:=hns x hx m hm; omega) hl] at h1 h2 h3
 exact ⟨h1,h2,h3⟩
theorem sD {C:List Tm} (hC:CM C) {t:Tm} {d:Int} (hf:t.formed d=true) (hd:0<d) (hm:t.mb C.length=true) {l:List Int} (hl:OL C l):kC C t l=(t.nds 0).foldl (gX C) l:=by
 have h80:=hC.len
 rw [JF,Qm hC _ _ (fun x hx m h=>xf hf hd hm hx h) hl]
theorem RV (C:List Tm) (l:List Int) (t:Tm) (b c:Int):gX C l (t,b)=gX C l (t,c):=by unfold gX; rw [PF t b c]
theorem RW (C:List Tm) (t:Tm) (b:Int) (l:List Int):(t.nds b).foldl (gX C) l=(t.nds 0).foldl (gX C) l:=by
 have:=AD t 0 b
 rw [Int.zero_add] at this
 rw [this,List.foldl_map]
 exact congrArg (fun f=>List.foldl f l (t.nds 0)) (funext fun l=>funext fun x=>RV C l x.1 _ _)
theorem KK (C:List Tm) (op:Int):∀ (r:List Tm) (i b:Int) (l:List Int),(Tm.ndsL op r i b).foldl (gX C) l=r.foldl (fun l a=>(a.nds 0).foldl (gX C) l) l:=by
 intro r
 induction r with
 | nil=>intro i b l; rfl
 | cons a r ih=>intro i b l; rw [Tm.ndsL,List.foldl_append,RW,ih]; rfl
theorem KL:∀ (n:Nat) (l:List Int),l.Nodup→(∀ x∈l,0≤x∧x<n)→l.length≤n:=by
 intro n
 induction n with
 | zero =>
  intro l _ h
  cases l with
  | nil=>simp
  | cons a r=>have:=h a (by simp); omega
 | succ n ih =>
  intro l hl h
  have h1:=ih (l.erase (n:Int)) (hl.erase _) (fun x hx=>by
   have h2:=h x (List.mem_of_mem_erase hx)
   have h3:x≠n:=fun e=>by subst e; exact (hl.not_mem_erase) hx
   omega)
  have h2:=List.length_erase (a:=(n:Int)) (l:=l)
  rw [h2] at h1
  split at h1<;>omega
theorem OL.len {C:List Tm} {l:List Int} (h:OL C l):l.length≤C.length:=KL _ _ h.nd h.lt
def lj (l:List Int) (n:Int):List Int:=if n∈l then l else l++[n]
theorem JG:∀ (m l:List Int),l.Nodup→(m.foldl lj l).Nodup∧∀ x,x∈m.foldl lj l ↔ x∈l∨x∈m:=by
 intro m
 induction m with
 | nil=>intro l h; exact ⟨h,by simp⟩
 | cons a r ih =>
  intro l h
  simp only [List.foldl_cons]
  have h1:(lj l a).Nodup:=by
   unfold lj; split
   ·exact h
   ·rename_i hn
    rw [List.nodup_append]
    refine ⟨h,by simp,fun y hy z hz=>?_⟩
    simp at hz; subst hz
    rintro rfl; exact hn hy
  obtain ⟨h2,h3⟩:=ih _ h1
  refine ⟨h2,fun x=>?_⟩
  rw [h3]
  unfold lj
  split
  ·rename_i hn
   simp only [List.mem_cons]
   constructor
   ·rintro (h|h); exact .inl h; exact .inr (.inr h)
   ·rintro (h|rfl|h); exact .inl h; exact .inl hn; exact .inr h
  ·simp only [List.mem_append,List.mem_cons,List.mem_singleton,List.not_mem_nil,or_false]
   constructor
   ·rintro ((h|h)|h); exact .inl h; exact .inr (.inl h); exact .inr (.inr h)
   ·rintro (h|h|h); exact .inl (.inl h); exact .inl (.inr h); exact .inr h
theorem IK {C:List Tm} {l m:List Int} (hl:OL C l) (hm:OL C m):OL C (m.foldl lj l):=by
 obtain ⟨h1,h2⟩:=JG m l hl.nd
 refine ⟨h1,fun n hn=>?_,fun n hn k hk=>?_⟩
 ·rcases (h2 n).1 hn with h|h
  ·exact hl.lt n h
  ·exact hm.lt n h
 ·rw [h2]
  rcases (h2 n).1 hn with h|h
  ·exact .inl (hl.cl n h k hk)
  ·exact .inr (hm.cl n h k hk)
def iH (C:List Tm) (args:List Tm) (l:List Int):List Int:=args.foldl (fun l a=>(kC C a []).foldl lj l) l
theorem Fv {C:List Tm} (hC:CM C) {t:Tm} {d:Int} (hf:t.formed d=true) (hd:0<d) (hm:t.mb C.length=true):OL C (kC C t [])∧∀ m,MI t m→m∈kC C t []:=by
 rw [sD hC hf hd hm (r0 C)]
 obtain ⟨h1,-,h3⟩:=sC hC (t.nds 0) C.length [] (Nat.le_refl _) (fun x hx m h=>xf hf hd hm hx h) (r0 C)
 exact ⟨h1,fun m ⟨x,hx,h⟩=>h3 x hx m h⟩
theorem Fw {C:List Tm} (hC:CM C):∀ (args:List Tm) (l:List Int),(∀ x∈args,x.proper=true∧x.mb C.length=true)→OL C l→OL C (iH C args l)∧(∀ x∈l,x∈iH C args l)∧∀ a∈args,∀ m,MI a m→m∈iH C args l:=by
 intro args
 induction args with
 | nil=>intro l _ h; exact ⟨h,fun x hx=>hx,fun a ha=>by simp at ha⟩
 | cons a r ih =>
  intro l h hl
  obtain ⟨ap,am⟩:=h a (by simp)
  obtain ⟨g1,g2⟩:=Fv hC (ar ap) (by omega) am
  obtain ⟨h1,h2,h3⟩:=ih ((kC C a []).foldl lj l) (fun x hx=>h x (by simp [hx])) (IK hl g1)
  have hm:=(JG (kC C a []) l hl.nd).2
  refine ⟨h1,fun x hx=>h2 x ((hm x).2 (.inl hx)),fun b hb m hbm=>?_⟩
  rcases List.mem_cons.1 hb with rfl|hb
  ·exact h2 m ((hm m).2 (.inr (g2 m hbm)))
  ·exact h3 b hb m hbm
def Du (l:List Int) (n:Int):Int:=if n∈l then sv l n 0 else n
def gI (l:List Int) (t:Tm):Tm:=t.mapN (fun op hd n _=>if op=4∧hd=3 then Du l n else n) 0
def rq (C args:List Tm):List Tm×List Tm:=((iH C args []).map fun n=>gI (iH C args []) (C.getD n.toNat tz),args.map (gI (iH C args [])))
theorem PH (l:List Int) (n:Int):∀ i:Int,0≤i→n∈l→i≤sv l n i∧sv l n i<i+l.length:=by
 induction l with
 | nil=>intro i _ h; simp at h
 | cons a r ih =>
  intro i h0 h
  unfold sv
  split
  ·simp; omega
  ·rename_i hne
   have:=ih (i+1) (by omega) ((List.mem_cons.1 h).resolve_left hne)
   simp only [List.length_cons]; push_cast; omega
mutual
theorem JH (F:Int→Int→Int→Int→Int):∀ (t:Tm) (b:Int),t.ok→(∀ x∈t.nds b,I64 (F x.1.op x.1.hd x.1.n x.2))→(t.mapN F b).ok
 | .mk op hd n args,b,h,hF=>by
  have hh:=h.here
  rw [Tm.nds] at hF
  rw [Tm.mapN]
  refine ⟨⟨hh.1,hh.2.1,hF _ (List.mem_cons_self ..),?_⟩,fun x hx=>?_⟩
  ·simp only [Tm.args_mk]; rw [Ef]; exact hh.2.2.2
  ·exact G5 F args op 0 b h.sub (fun y hy=>hF y (List.mem_cons_of_mem _ hy)) x hx
theorem G5 (F:Int→Int→Int→Int→Int):∀ (l:List Tm) (op i b:Int),(∀ x∈l,x.ok)→(∀ x∈Tm.ndsL op l i b,I64 (F x.1.op x.1.hd x.1.n x.2))→∀ x∈Tm.mapNL F op l i b,x.ok
 | [],_,_,_,_,_,x,hx=>by cases hx
 | t::r,op,i,b,h,hF,x,hx=>by
  rw [Tm.mapNL] at hx
  rw [Tm.ndsL] at hF
  rcases List.mem_cons.1 hx with rfl|hx
  ·exact JH F t _ (h t (by simp)) (fun y hy=>hF y (List.mem_append_left _ hy))
  ·exact G5 F r op (i+1) b (fun y hy=>h y (by simp [hy])) (fun y hy=>hF y (List.mem_append_right _ hy)) x hx
theorem Ef (F:Int→Int→Int→Int→Int):∀ (l:List Tm) (op i b:Int),(Tm.mapNL F op l i b).length=l.length
 | [],_,_,_=>rfl
 | _::r,op,i,b=>by rw [Tm.mapNL,List.length_cons,List.length_cons,Ef F r]
end
theorem JI {l:List Int} {t:Tm} (h:t.ok) (hl:l.length≤1000):(gI l t).ok:=by
 refine JH _ t 0 h fun x hx=>?_
 have h1:=(AF t 0 h x hx).here.2.2.1
 split
 ·unfold Du
  split
  ·rename_i hm
   have:=PH l x.1.n 0 (by omega) hm
   unfold I64; omega
  ·exact h1
 ·exact h1
theorem G6 {C args:List Tm} (hC:CM C) (ha:∀ x∈args,x.ok∧x.proper=true∧x.mb C.length=true):(∀ x∈(rq C args).1,x.ok)∧(∀ x∈(rq C args).2,x.ok)∧(rq C args).1.length≤80∧(rq C args).2.length=args.length:=by
 obtain ⟨h1,-,-⟩:=Fw hC args [] (fun x hx=>(ha x hx).2) (r0 C)
 have hlen:=h1.len
 have h80:=hC.len
 refine ⟨fun x hx=>?_,fun x hx=>?_,by simp [rq]; omega,by simp [rq]⟩
 ·obtain ⟨n,hn,rfl⟩:=List.mem_map.1 hx
  obtain ⟨n0,n1⟩:=h1.lt n hn
  obtain ⟨a,-,hga,ao,-⟩:=uF hC n0 n1
  rw [hga]
  exact JI ao (by omega)
 ·obtain ⟨a,hm,rfl⟩:=List.mem_map.1 hx
  exact JI (ha a hm).1 (by omega)
end Go.Ev

namespace Go.Ev
noncomputable section
section
variable {T:FuncId→Option IF} {H:gk} {α:Type}
abbrev KD (α:Type):=Option PV→Env→Sto→Option α
def DK (T:FuncId→Option IF) (H:gk) (b:List Nat) (c:IC) (env:Env) (σ:Sto) (K:KD α):Option α:=match evD T (E T H) b c env σ with
 | some (u,e,s)=>K u e s
 | none=>none
def kE (K:KD α):KT α:=fun x e s=>match x with
 | .norm=>K none e s
 | .ret=>K none e s
 | .pan v=>K (some v) e s
 | .exit _=>none
@[simp] theorem UY (K:KD α) (e s):kE K .norm e s=K none e s:=rfl
@[simp] theorem Vr (K:KD α) (e s):kE K .ret e s=K none e s:=rfl
@[simp] theorem Vs (K:KD α) (v e s):kE K (.pan v) e s=K (some v) e s:=rfl
def kD (T:FuncId→Option IF) (H:gk) (b:List Nat) (c:IC) (K:KD α):KT α:=fun x e s=>match x with
 | .norm=>DK T H b c e s K
 | .ret=>K none e s
 | .pan v=>K (some v) e s
 | .exit _=>none
@[simp] theorem UZ (b c) (K:KD α) (e s):kD T H b c K .norm e s=DK T H b c e s K:=rfl
@[simp] theorem Vt (b c) (K:KD α) (e s):kD T H b c K .ret e s=K none e s:=rfl
@[simp] theorem Vu (b c) (K:KD α) (v e s):kD T H b c K (.pan v) e s=K (some v) e s:=rfl
theorem T6 (b:List Nat) (x y:IC) (env:Env) (σ:Sto) (K:KD α):DK T H b (.seq x y) env σ K=EK T H b x env σ (kD T H b y K):=by
 unfold DK EK
 rw [evD]
 unfold bX
 rcases E T H b x env σ with _|⟨z,e,s⟩
 ·rfl
 ·cases z<;>rfl
theorem Nu (b:List Nat) (c:IC) (env:Env) (σ:Sto) (K:KD α) (h:evD T (E T H) b c env σ=AL (E T H) b c env σ):DK T H b c env σ K=EK T H b c env σ (kE K):=by
 unfold DK EK bX kE
 rw [h,AL]
 rcases E T H b c env σ with _|⟨z,e,s⟩
 ·rfl
 ·cases z<;>rfl
theorem T7 (b keep env σ) (K:KD α):DK T H b (.ret keep) env σ K=K none (restrict keep env) σ:=Nu _ _ _ _ _ rfl
theorem T8 (b d ops keep env σ) (K:KD α):DK T H b (.reg d ops keep) env σ K=EK T H b (.reg d ops keep) env σ (kE K):=Nu _ _ _ _ _ rfl
theorem RX (b c x y env σ) (K:KD α):DK T H b (.cond c x y) env σ K=EK T H b (.cond c x y) env σ (kE K):=Nu _ _ _ _ _ rfl
theorem PI (b i x env σ) (K:KD α):DK T H b (.block i x) env σ K=EK T H b (.block i x) env σ (kE K):=Nu _ _ _ _ _ rfl
theorem RY (b env σ) (K:KD α):DK T H b .skip env σ K=K none env σ:=Nu _ _ _ _ _ rfl
def kDc (T:FuncId→Option IF) (H:gk) (b:List Nat) (g:FuncId) (args:List PV) (K:KD α):KD α:=fun u e s=>match pB T (E T H) b g args u s with
 | some (u',s')=>K u' e s'
 | none=>none
theorem Qn {b pre keep f args rest env σ} {K:KD α} {u env1 σ1 vs g cap} (h1:vc b pre none env σ=some (u,env1,σ1)) (h2:evs env1 args=some vs) (h3:Hz env1 f=some (g,cap)) :
  DK T H b (.dfr pre keep f args rest) env σ K=DK T H b rest (restrict keep env1) σ1 (kDc T H b g (vs++cap) K):=by
 unfold DK
 rw [evD]
 simp only [h1,h2,h3]
 rcases evD T (E T H) b rest (restrict keep env1) σ1 with _|⟨u,e,s⟩
 ·rfl
 ·simp only [kDc]
  rcases pB T (E T H) b g (vs++cap) u s with _|⟨u',s'⟩<;>rfl
def kDf (fn:IF) (n:Nat):KD (Out×Sto):=fun u e s=>AM fn n (some (u,e,s))
@[simp] theorem T9 (fn n e s):kDf fn n none e s=(jC e s fn.res).bind fun vs=>(mF fn.mode n (rG vs) s).bind fun p=>some (.ret p.1,p.2):=rfl
@[simp] theorem Ua (fn n v e s):kDf fn n (some v) e s=if below n v then some (.pan v,s.take n) else none:=rfl
theorem Nv {n:FuncId} {fn:IF} (h1:n<YB) (h2:H n=none) (h3:T n=some fn) (h4:fn.mode=2) (bars:List Nat) (args:List PV) (σ:Sto) (hl:args.length=fn.np) :
  az T H bars n args σ=DK T H (σ.length::bars) fn.body (ep 0 args) σ (kDf fn σ.length):=by
 rw [uX,body,if_neg (Nat.not_le.2 h1),h2]
 simp only [h3,if_pos hl,if_pos h4]
 unfold DK kDf E RR
 rcases evD T (evC (xcall (az T H)) fI) (σ.length::bars) fn.body (ep 0 args) σ with _|⟨u,e,s⟩<;>rfl
end
attribute [simp] T6 T7 T8 RX PI RY
end
end Go.Ev

namespace Go.Ev
def fl (e:Int):PV:=.iface 203 (.agg [.i e])
theorem gx (e:Int):az TT HH [] eJ [.i e] []=some (.pan (fl e),[]):=by
 rw [Dj]
 simp [rV,fl]
theorem pw (t:Tm) (h:t.ok):az TT HH [] iQ [t.enc] []=some (if t.proper then .ret t.enc else .pan (fl 5),[]):=by
 rw [Dr]
 have h1:=au (bO t h) (by simp) (by simp)
 have h2:=au (gx 5) (by simp) (by simp)
 cases hp:t.proper<;>rw [hp] at h1<;>simp [rZ,h1,h2,fl,aa]
theorem yD (t:Tm) (h:t.ok) (hp:t.proper=true) (k:Int) (hk:0≤k) (hk1:k≤9999):az TT HH [] om [t.enc,.i k] []=some (if (t.moved k 0).proper then .ret (t.moved k 0).enc else .pan (fl 5),[]):=by
 rw [BY]
 have h1:=au (zZ t h k 0 hk hk1 (by omega) (by omega)) (by simp) (by simp)
 have h2:=au (gx 5) (by simp) (by simp)
 rw [hp] at h1
 cases hq:(t.moved k 0).proper<;>rw [hq] at h1<;>simp at h1<;>simp [qD,h1,h2,fl,aa]
mutual
def Sp.pr:Sp→Int→Bool×Int
 | .mk args con,c=>if 600<c+1∨con<0∨9999<con then (false,c+1) else Sp.prL args (c+1)
def Sp.prL:List Sp→Int→Bool×Int
 | [],c=>(true,c)
 | t::r,c=>if (t.pr c).1 then Sp.prL r (t.pr c).2 else (false,(t.pr c).2)
end
theorem PJ:∀ (t:Sp) (c:Int),t.pr c=if 600<c+1∨t.con<0∨9999<t.con then (false,c+1) else Sp.prL t.args (c+1)
 | .mk _ _,_=>by rw [Sp.pr]; rfl
def Sp.pos:List Sp→Int→Int→Int
 | [],_,_=>-1
 | t::r,c,i=>if (t.pr c).1 then Sp.pos r (t.pr c).2 (i+1) else i
theorem Ub (l:List Sp):∀ c i:Int,0≤i→decide (0≤Sp.pos l c i)=!(Sp.prL l c).1:=by
 induction l with
 | nil=>intro c i h; simp [Sp.pos,Sp.prL]
 | cons a r ih =>
  intro c i h
  unfold Sp.pos Sp.prL
  cases (a.pr c).1 with
  | true=>simpa using ih (a.pr c).2 (i+1) (by omega)
  | false=>simpa using h
theorem RZ (l:List Sp):∀ c i:Int,(Sp.prL l c).1=true→Sp.pos l c i=-1:=by
 induction l with
 | nil=>intro c i h; rfl
 | cons a r ih =>
  intro c i h
  unfold Sp.pos
  unfold Sp.prL at h
  cases ha:(a.pr c).1 with
  | true=>rw [ha] at h; simpa using ih (a.pr c).2 (i+1) (by simpa using h)
  | false=>rw [ha] at h; simp at h
mutual
theorem IL:∀ (t:Sp) (c:Int),0≤c→(t.pr c).1=(decide (c+t.cons≤600) && t.fits)∧((t.pr c).1=true→(t.pr c).2=c+t.cons)∧c≤(t.pr c).2
 | .mk args con,c,h0=>by
  unfold Sp.pr Sp.fits Sp.cons
  push_cast
  split
  ·rename_i h
   refine ⟨?_,by simp,by simp; omega⟩
   rcases h with h|h|h
   ·have:¬ (c+(1+(Sp.consL args:Int))≤600):=by omega
    simp [this]
   ·have:¬ (0≤con):=by omega
    simp [this]
   ·have:¬ (con≤9999):=by omega
    simp [this]
  ·rename_i h
   obtain ⟨h1,h2,h3⟩:=JJ args (c+1) (by omega) (by omega)
   refine ⟨?_,fun hh=>by have:=h2 hh; omega,by omega⟩
   rw [h1]
   have e:(c+1+(Sp.consL args:Int)≤600)=(c+(1+(Sp.consL args:Int))≤600):=by rw [Int.add_assoc]
   have e1:0≤con:=by omega
   have e2:con≤9999:=by omega
   simp [e,e1,e2]
theorem JJ:∀ (l:List Sp) (c:Int),0≤c→c≤600→(Sp.prL l c).1=(decide (c+Sp.consL l≤600) && Sp.fitsL l)∧((Sp.prL l c).1=true→(Sp.prL l c).2=c+Sp.consL l)∧c≤(Sp.prL l c).2
 | [],c,h0,h1=>by
  unfold Sp.prL Sp.consL Sp.fitsL
  simp [h1]
 | t::r,c,h0,h1=>by
  unfold Sp.prL Sp.consL Sp.fitsL
  push_cast
  obtain ⟨g1,g2,g3⟩:=IL t c h0
  cases hp:(t.pr c).1 with
  | false =>
   rw [hp] at g1
   refine ⟨?_,by simp,by simpa using g3⟩
   by_cases hn:c+t.cons≤600
   ·simp [hn] at g1
    simp [g1]
   ·have:¬ (c+((t.cons:Int)+(Sp.consL r:Int))≤600):=by omega
    simp [this]
  | true =>
   rw [hp] at g1
   have g2:=g2 hp
   have g1':=g1.symm
   simp only [Bool.and_eq_true,decide_eq_true_eq] at g1'
   simp only [if_true]
   rw [g2]
   obtain ⟨k1,k2,k3⟩:=JJ r (c+t.cons) (by omega) (by omega)
   refine ⟨?_,fun hh=>by have:=k2 hh; omega,by omega⟩
   rw [k1,g1'.2,Int.add_assoc]
   simp
end
theorem KM (t:Sp):(t.pr 0).1=t.small:=by
 rw [(IL t 0 (by omega)).1]
 unfold Sp.small
 rw [show decide ((0:Int)+(t.cons:Int)≤600)=decide (t.cons≤600) from decide_eq_decide.2 (by omega)]
set_option maxHeartbeats 1000000 in
theorem yE:∀ t:Sp,t.ok→∀ (p:Nat) (bars:List Nat) (σ:Sto) (c:Int),0≤c→c≤600→σ[p]? = some (.var [.i c])→az TT HH bars gU [t.enc,.ptr p 0] σ=some (.ret (.b (t.pr c).1),σ.set p (.var [.i (t.pr c).2])) :=
 Sp.ind fun t ih hok p bars σ c h0 h1 hp=>by
  rw [BX,PJ]
  have e3:=ml hok.len
  have hpl:p<σ.length:=bE hp
  have hpl1:p<σ.length+1:=by omega
  have hw:IntKind.i64.wrap (c+1)=c+1:=ai _ (by omega) (by omega)
  by_cases g:600<c+1∨t.con<0∨9999<t.con
  ·rw [if_pos g]
   by_cases g1:600<c+1
   ·simp [iD,g1,hw,hp,hpl,hpl1,-getElem?_pos,List.getElem?_cons_zero,List.getElem?_cons_succ,List.getElem?_nil,ak,aw,aq,ax,ay,ag,af,take_set,ae]
   ·by_cases g2:t.con<0
    ·simp [iD,g1,g2,hw,hp,hpl,hpl1,-getElem?_pos,List.getElem?_cons_zero,List.getElem?_cons_succ,List.getElem?_nil,ak,aw,aq,ax,ay,ag,af,take_set,ae]
    ·have g3:9999<t.con:=by omega
     simp [iD,g1,g2,g3,hw,hp,hpl,hpl1,-getElem?_pos,List.getElem?_cons_zero,List.getElem?_cons_succ,List.getElem?_nil,ak,aw,aq,ax,ay,ag,af,take_set,ae]
  rw [if_neg g]
  have g1:¬ 600<c+1:=by omega
  have g2:¬ t.con<0:=by omega
  have g3:¬ 9999<t.con:=by omega
  have hcl:∀ (x:Sp) (bars:List Nat) (c:Int) (a b:Ob),x∈t.args→0≤c→c≤600→RR TT HH bars fg [x.enc,.ptr (σ.length+1) 0] (σ.set p (.var [.i c])++[a,.var [.ptr p 0]])=some (.ret (.b (!(x.pr c).1)),σ.set p (.var [.i (x.pr c).2])++[a,.var [.ptr p 0]]):=fun x bars c a b hx c0 c1=>by
   have hc:∀ (bars:List Nat) (l:Sto),RR TT HH bars gU [x.enc,.ptr p 0] (σ.set p (.var [.i c])++l)=some (.ret (.b (x.pr c).1),σ.set p (.var [.i (x.pr c).2])++l):=fun bars l=>by
    rw [aX (by simp) (by simp),ih x hx (hok.sub x hx) p bars _ c c0 c1 (by simp [hpl,-getElem?_pos,List.getElem?_cons_zero,List.getElem?_cons_succ,List.getElem?_nil,ak,aw,aq,ax,ay,ag,af,take_set,ae])]
    simp [hpl,-getElem?_pos,List.getElem?_cons_zero,List.getElem?_cons_succ,List.getElem?_nil,ak,aw,aq,ax,ay,ag,af,take_set,ae]
   have hc2:=fun bars a b d=>hc bars [a,b,d]
   have tk:∀ y (a b d:Ob),(σ.set p y++[a,b,d]).take (σ.length+2)=σ.set p y++[a,b]:=fun y a b d=>by rw [ae]; rfl
   rw [aX (by simp) (by simp),yh]
   simp [nV,hc2,hpl,hpl1,aD,tk,-getElem?_pos,List.getElem?_cons_zero,List.getElem?_cons_succ,List.getElem?_nil,ak,aw,aq,ax,ay,ag,af,take_set,ae]
  have hlo:=fun (b:List Nat) (a:Ob)=>be (T:=TT) (H:=HH) (b:=b) (A:=aH) t.args
   (fun i (c:Int)=>([(0,.sl false (ab t.args)),(1,.fn (.func fg) [.ptr (σ.length+1) 0]),(7,.i t.args.length),(8,.i i)],σ.set p (.var [.i c])++[a,.var [.ptr p 0]]))
   (fun r i c=>if (Sp.prL r c).1 then (.exit 0,[],σ.set p (.var [.i (Sp.prL r c).2])++[a,.var [.ptr p 0]]) else (.ret,[(4,.i (Sp.pos r c i))],σ.set p (.var [.i (Sp.prL r c).2])++[a,.var [.ptr p 0]]))
   (fun _ c=>0≤c∧c≤600)
   (fun c _=>by
    rw [aF]
    have tk:∀ y (a b:Ob),(σ.set p y++[a,b]).take (σ.length+2)=σ.set p y++[a,b]:=fun y a b=>by rw [ae]; rfl
    simp [aH,Sp.prL,tk])
   (fun i x r c hx hm hd hi ⟨q0,q1⟩=>by
    have e1:(i:Int)<t.args.length:=by omega
    have hw:IntKind.i64.wrap ((i:Int)+1)=(i:Int)+1:=ai _ (by omega) (by omega)
    have tk:∀ y (a b:Ob),(σ.set p y++[a,b]).take (σ.length+2)=σ.set p y++[a,b]:=fun y a b=>by rw [ae]; rfl
    have hc:=fun bars=>hcl x bars c a a hm q0 q1
    obtain ⟨g1,g2,g3⟩:=IL x c q0
    cases hx1:(x.pr c).1 with
    | true =>
     rw [hx1] at hc g1
     refine .inr ⟨(x.pr c).2,?_,?_,by simp [Sp.prL,Sp.pos,hx1]⟩
     ·rw [aF]
      simp [aH,e1,hx,hc,hw,aD,tk,hpl]
     ·have:=g1.symm
      simp only [Bool.and_eq_true,decide_eq_true_eq] at this
      have:=g2 hx1
      omega
    | false =>
     rw [hx1] at hc
     refine .inl ⟨?_,by simp [Sp.prL,hx1]⟩
     rw [aF]
     simp [aH,e1,hx,hc,hw,aD,tk,hpl,Sp.prL,Sp.pos,hx1]) 0 (c+1) (by omega) ⟨by omega,by omega⟩
  simp at hlo
  have e4:=Ub t.args (c+1) 0 (by omega)
  have hix:∀ (bars:List Nat) (a:Ob),RR TT HH bars bq [.sl false (ab t.args),.fn (.func fg) [.ptr (σ.length+1) 0]] (σ.set p (.var [.i (c+1)])++[a,.var [.ptr p 0]])=some (.ret (.i (Sp.pos t.args (c+1) 0)),σ.set p (.var [.i (Sp.prL t.args (c+1)).2])++[a,.var [.ptr p 0]]):=fun bars a=>by
   rw [aX (by simp) (by simp),ek]
   have tk:∀ y (a b:Ob),(σ.set p y++[a,b]).take (σ.length+2)=σ.set p y++[a,b]:=fun y a b=>by rw [ae]; rfl
   have hb:=hlo ((σ.length+2)::bars) a
   cases hq:(Sp.prL t.args (c+1)).1<;>rw [hq] at hb<;>simp at hb<;>simp [bS,hb,e3,tk]
   exact (RZ t.args (c+1) 0 hq).symm
  have hcf:∀ (bars:List Nat) (a:Ob),RR TT HH bars aQ [.sl false (ab t.args),.fn (.func fg) [.ptr (σ.length+1) 0]] (σ.set p (.var [.i (c+1)])++[a,.var [.ptr p 0]])=some (.ret (.b (!(Sp.prL t.args (c+1)).1)),σ.set p (.var [.i (Sp.prL t.args (c+1)).2])++[a,.var [.ptr p 0]]):=fun bars a=>by
   rw [aX (by simp) (by simp),dN]
   have tk:∀ y (a b:Ob),(σ.set p y++[a,b]).take (σ.length+2)=σ.set p y++[a,b]:=fun y a b=>by rw [ae]; rfl
   simp [bC,hix,tk,e4]
  simp [iD,g1,g2,g3,hw,hp,hpl,hpl1,hcf,-getElem?_pos,List.getElem?_cons_zero,List.getElem?_cons_succ,List.getElem?_nil,ak,aw,aq,ax,ay,ag,af,take_set,ae]
theorem kF (t:Sp) (h:t.ok):az TT HH [] gQ [t.enc] []=some (.ret (.b t.small),[]):=by
 rw [BJ]
 have hc:∀ bars,RR TT HH bars gU [t.enc,.ptr 1 0] [.var (Enc.cells t),.var [.i 0]]=some (.ret (.b (t.pr 0).1),[.var (Enc.cells t),.var [.i (t.pr 0).2]]):=fun bars=>by rw [aX (by simp) (by simp),yE t h 1 bars _ 0 (by omega) (by omega) (by simp)]; rfl
 simp only [uB] at hc
 have hp:=KM t
 simp [qA,hc,hp,aD]
end Go.Ev

namespace Go.Ev
section
variable {T:FuncId→Option IF} {H:gk}
theorem gJ {α S:Type} {b:List Nat} {A:IC} (l:List α) (st:Nat→S→Env×Sto) (Q:List α→Nat→S→Ex×Env×Sto→Prop) (inv:Nat→S→Prop)
  (h0:∀ s,inv l.length s→∃ y,E T H b A (st l.length s).1 (st l.length s).2=some y∧y.1≠.norm∧Q [] l.length s y)
  (h1:∀ i x r s,l[i]? = some x→x∈l→l.drop i=x::r→i<l.length→inv i s →
   (∃ y,E T H b A (st i s).1 (st i s).2=some y∧y.1≠.norm∧Q (x::r) i s y) ∨
   ∃ s',E T H b A (st i s).1 (st i s).2=some (.norm,st (i+1) s')∧inv (i+1) s'∧∀ y,Q r (i+1) s' y→Q (x::r) i s y) :
  ∀ (i:Nat) (s:S),i≤l.length→inv i s→∃ y,LO T H b A (st i s)=some y∧Q (l.drop i) i s y:=by
 have key:∀ (k i:Nat) (s:S),i+k=l.length→inv i s→∃ y,LO T H b A (st i s)=some y∧Q (l.drop i) i s y:=by
  intro k
  induction k with
  | zero =>
   intro i s hi hv
   obtain rfl:i=l.length:=by omega
   obtain ⟨y,h2,h3,h4⟩:=h0 s hv
   refine ⟨y,?_,by rw [Gz (Nat.le_refl _)]; exact h4⟩
   rw [show st l.length s=((st l.length s).1,(st l.length s).2) from rfl,aP,h2]
   obtain ⟨e,y1,y2⟩:=y
   cases e<;>first|rfl|exact absurd rfl h3
  | succ k ih =>
   intro i s hi hv
   obtain ⟨x,hx,hm,hd⟩:=eQ (l:=l) (i:=i) (by omega)
   rw [hd]
   rcases h1 i x _ s hx hm hd (by omega) hv with ⟨y,h2,h3,h4⟩|⟨s',h2,h3,h4⟩
   ·refine ⟨y,?_,h4⟩
    rw [show st i s=((st i s).1,(st i s).2) from rfl,aP,h2]
    obtain ⟨e,y1,y2⟩:=y
    cases e<;>first|rfl|exact absurd rfl h3
   ·obtain ⟨y,g1,g2⟩:=ih (i+1) s' (by omega) h3
    refine ⟨y,?_,h4 y g2⟩
    rw [show st i s=((st i s).1,(st i s).2) from rfl,aP,h2]
    exact g1
 exact fun i s hi hv=>key (l.length - i) i s (by omega) hv
end
end Go.Ev

namespace Go.Ev
attribute [simp] lk top gy
def r9 (p:Nat) (σ:Sto) (r:SR):Option (Out×Sto):=some (if r.2.1=0 then .ret r.2.2.enc else .pan (fl r.2.1),σ.set p (.var [.i r.1]))
theorem kH {f:FuncId} {args:List PV} {r:Out} (h:az TT HH [] f (norm.normAll args) []=some (r,[])) (hb0:below.belowAll 0 args=false) (hb:below.belowAll 0 (norm.normAll args)=true) (hf:f<YB) (bars:List Nat) (σ:Sto):RR TT HH bars f args σ=some (r,σ):=Ie h hb0 hb hf
def AG (k:Nat):Prop:=∀ (t:Tm) (n:Int) (s:Tm) (sp:Sp) (st d:Int) (p:Nat) (bars:List Nat) (σ:Sto),t.ok→t.formed d=true→t.nodes≤600→0≤n→n+41 - d≤9999→s.ok→s.proper=true→sp.ok→0≤st→st≤20000→20000≤st+k→σ[p]? = some (.var [.i st])→(∀ y∈bars,y≤σ.length) →
 az TT HH bars cm [.ptr p 0,t.enc,.i n,s.enc,sp.enc] σ=r9 p σ (aN k t n s sp st)
theorem PK {sp:Sp} (h:sp.ok) (i:Nat):(Sp.mk (sp.args.drop i) sp.con).ok:=by
 cases h with
 | mk h0 h1 ha=>exact ⟨h0,by simp only [Sp.args_mk,List.length_drop]; omega,fun z hz=>ha z (List.mem_of_mem_drop hz)⟩
theorem gc (n:Nat) (e:Int):below n (fl e)=true:=by simp [fl]
set_option maxHeartbeats 2000000 in
theorem Co {k:Nat} (IH:AG k) (l:List Tm) (f:Tm) (sp:Sp) (st:Int) (p:Nat) (bars:List Nat) (σ:Sto) (v:PV) (hl:∀ x∈l,x.ok∧x.proper=true) (hll:l.length≤4000) (hf:f.ok) (hp:f.proper=true) (hsp:sp.ok) (h0:0≤st) (h1:st≤20000) (hk:20000≤st+k) (hs:σ[p]? = some (.var [.i st])) (hv:norm v=.sl false (ab l)) (hbr:∀ y∈bars,y≤σ.length) :
  az TT HH bars eu [.ptr p 0,f.enc,v,sp.enc] σ=r9 p σ (fH (aN k) l f sp st):=by
 rw [vl]
 have hpl:p<σ.length:=bE hs
 have hpl1:p<σ.length+1:=by omega
 have hpl2:p<σ.length+2:=by omega
 have hpl3:p<σ.length+3:=by omega
 have e3:=ml hsp.len
 have e4:l.length<9223372036854775808:=by omega
 have hS0:σ.set p (.var [.i st])=σ:=wL hs
 have hfail:=au (gx 23) (by simp) (by simp)
 have hc:∀ (b x:Tm) (s:Sp) (st:Int) (bars:List Nat) (ext:Sto),b.ok→b.formed 2=true→b.nodes≤600→x.ok→x.proper=true→s.ok→0≤st→st≤20000→20000≤st+k→(∀ y∈bars,y≤σ.length+ext.length) →
   RR TT HH bars cm [.ptr p 0,b.enc,.i 0,x.enc,s.enc] (σ.set p (.var [.i st])++ext)=some (if (aN k b 0 x s st).2.1=0 then .ret (aN k b 0 x s st).2.2.enc else .pan (fl (aN k b 0 x s st).2.1),σ.set p (.var [.i (aN k b 0 x s st).1])++ext):=fun b x s st bars ext g1 g2 gn g3 g4 g5 g6 g7 g8 gb=>by
  rw [aX (by simp) (by simp),IH b 0 x s st 2 p bars _ g1 g2 gn (by omega) (by omega) g3 g4 g5 g6 g7 g8 (by simp [hpl,-getElem?_pos,List.getElem?_cons_zero,List.getElem?_cons_succ,List.getElem?_nil,ak,aw,aq,ax,ay,ag,af,take_set,ae]) (by simpa using gb)]
  simp [r9,hpl,-getElem?_pos,List.getElem?_cons_zero,List.getElem?_cons_succ,List.getElem?_nil,ak,aw,aq,ax,ay,ag,af,take_set,ae]
 have hlo:=gJ (T:=TT) (H:=HH) (b:=σ.length::bars) (A:=cP) l
  (fun i (s:Tm×Int)=>([(5,.ptr σ.length 0),(7,.ptr (σ.length+1) 0),(8,.ptr (σ.length+2) 0),(9,.bm cm [.ptr p 0]),(14,.sl false (ab l)),(15,.i l.length),(16,.i i)],σ.set p (.var [.i s.2])++[.var (Enc.cells s.1),.var (Enc.cells sp),.var [.i 0,.i 0,.i 0,.sl true []]]))
  (fun r i s y=>if (fH (aN k) r s.1 (.mk (sp.args.drop i) sp.con) s.2).2.1=0 then
    y=(.exit 0,[(5,.ptr σ.length 0),(8,.ptr (σ.length+2) 0)],σ.set p (.var [.i (fH (aN k) r s.1 (.mk (sp.args.drop i) sp.con) s.2).1])++[.var (Enc.cells (fH (aN k) r s.1 (.mk (sp.args.drop i) sp.con) s.2).2.2),.var (Enc.cells sp),.var [.i 0,.i 0,.i 0,.sl true []]])
   else y.1=.pan (fl (fH (aN k) r s.1 (.mk (sp.args.drop i) sp.con) s.2).2.1)∧y.2.2.take σ.length=σ.set p (.var [.i (fH (aN k) r s.1 (.mk (sp.args.drop i) sp.con) s.2).1]))
  (fun _ s=>s.1.ok∧s.1.proper=true∧0≤s.2∧s.2≤20000∧20000≤s.2+k)
  (fun s ⟨q1,q2,q3,q4,q5⟩=>by
   have tk:∀ y (a b c:Ob),(σ.set p y++[a,b,c]).take (σ.length+3)=σ.set p y++[a,b,c]:=fun y a b c=>by rw [ae]; rfl
   rw [aF]
   simp [cP,fH,e3,q2,tk])
  (fun i x r s hx hm hd hi ⟨q1,q2,q3,q4,q5⟩=>by
   obtain ⟨f,st⟩:=s
   simp only at q1 q2 q3 q4 q5
   have e1:(i:Int)<l.length:=by omega
   have hw:IntKind.i64.wrap ((i:Int)+1)=(i:Int)+1:=ai _ (by omega) (by omega)
   have tk:∀ y (a b c d:Ob),(σ.set p y++[a,b,c,d]).take (σ.length+3)=σ.set p y++[a,b,c]:=fun y a b c d=>by rw [ae]; rfl
   have tk4:∀ y (a b c d:Ob),(σ.set p y++[a,b,c,d]).take (σ.length+4)=σ.set p y++[a,b,c,d]:=fun y a b c d=>by rw [ae]; rfl
   have tk0:∀ y (l:Sto),(σ.set p y++l).take σ.length=σ.set p y:=fun y l=>take_set y l
   obtain ⟨xo,xp⟩:=hl x hm
   by_cases h3:f.op=3
   ·obtain ⟨b,hb,hfb⟩:=Fp q2 h3
    have hbn:b.nodes≤600:=by have:=dJ (t:=f) (x:=b) (by rw [hb]; simp); have:=aI q2; omega
    cases hq:sp.args.drop i with
    | nil =>
     have hlen:(sp.args.length:Int)≤i:=by
      have:=congrArg List.length hq
      simp at this; omega
     refine .inl ?_
     rw [aF]
     simp [cP,fH,e3,e1,hx,h3,hb,hq,hlen,hfail,hw,tk,tk0,aa,aD,hpl,hpl1,hpl2,hpl3,-getElem?_pos,List.getElem?_cons_zero,List.getElem?_cons_succ,List.getElem?_nil,ak,aw,aq,ax,ay,ag,af,take_set,ae]
    | cons s q =>
     have hlen:¬ (sp.args.length:Int)≤i:=by
      have:=congrArg List.length hq
      simp at this; omega
     have hsi:sp.args[i]? = some s:=by
      rw [← List.head?_drop,hq]; rfl
     have hso:=hsp.sub s (List.mem_of_getElem? hsi)
     have hqd:sp.args.drop (i+1)=q:=by rw [← List.drop_drop,hq]; rfl
     have hcc:=fun (e0 e1 e2 e3:Ob)=>hc b x s st ((σ.length+3)::σ.length::bars) [e0,e1,e2,e3] (q1.sub b (by rw [hb]; simp)) hfb hbn xo xp hso q3 q4 q5 (fun y hy=>by
      simp only [List.mem_cons] at hy
      simp only [List.length_cons,List.length_nil]
      rcases hy with rfl|rfl|hy
      ·omega
      ·omega
      ·have:=hbr y hy; omega)
     have hiv:=jg k b 0 x s st 2 (q1.sub b (by rw [hb]; simp)) hfb (by omega) (by omega) xo xp hso q3 q4
     by_cases he:(aN k b 0 x s st).2.1=0
     ·have hiv:=hiv he
      simp only [if_pos he] at hcc
      refine .inr ⟨((aN k b 0 x s st).2.2,(aN k b 0 x s st).1),?_,⟨hiv.ok,hiv.pr,Int.le_trans q3 hiv.lo,hiv.hi,by have:=hiv.lo; simp only; omega⟩,fun y hy=>?_⟩
      ·rw [aF]
       simp [cP,e3,e1,hx,h3,hb,hlen,hsi,hcc,hw,tk,tk4,tk0,aa,aD,hpl,hpl1,hpl2,hpl3,-getElem?_pos,List.getElem?_cons_zero,List.getElem?_cons_succ,List.getElem?_nil,ak,aw,aq,ax,ay,ag,af,take_set,ae]
      ·simpa [fH,h3,hb,hq,he,hqd] using hy
     ·simp only [if_neg he] at hcc
      refine .inl ?_
      rw [aF]
      simp [cP,fH,e3,he,hq,e1,hx,h3,hb,hlen,hsi,hcc,hw,tk,tk4,tk0,aa,aD,hpl,hpl1,hpl2,hpl3,-getElem?_pos,List.getElem?_cons_zero,List.getElem?_cons_succ,List.getElem?_nil,ak,aw,aq,ax,ay,ag,af,take_set,ae]
   ·refine .inl ?_
    rw [aF]
    simp [cP,fH,e3,e1,hx,h3,hfail,hw,tk,tk0,aa,aD,hpl,hpl1,hpl2,hpl3,-getElem?_pos,List.getElem?_cons_zero,List.getElem?_cons_succ,List.getElem?_nil,ak,aw,aq,ax,ay,ag,af,take_set,ae]) 0 (f,st) (by omega) ⟨hf,hp,h0,h1,hk⟩
 obtain ⟨y,hy,hq⟩:=hlo
 have hSp:Sp.mk (sp.args.drop 0) sp.con=sp:=by simp
 simp only [List.drop_zero,Sp.eta] at hq
 have hiv:=Ci (jg k) l f sp st hl hf hp hsp h0 h1
 have tk0:∀ y (l:Sto),(σ.set p y++l).take σ.length=σ.set p y:=fun y l=>take_set y l
 rw [hS0] at hy
 simp only [fK,uB] at hy hq
 by_cases he:(fH (aN k) l f sp st).2.1=0
 ·have hiv:=hiv he
  have hkept:=au (pw (fH (aN k) l f sp st).2.2 hiv.ok) (by simp) (by simp)
  rw [hiv.pr] at hkept
  rw [if_pos he] at hq
  subst hq
  simp at hy
  simp [gY,r9,he,hv,hy,e4,hkept,hs,hpl,hpl1,hpl2,hpl3,aa,aD,tk0,-getElem?_pos,List.getElem?_cons_zero,List.getElem?_cons_succ,List.getElem?_nil,ak,aw,aq,ax,ay,ag,af,take_set,ae]
 ·rw [if_neg he] at hq
  obtain ⟨y1,y2,y3⟩:=y
  obtain ⟨hq1,hq2⟩:=hq
  simp only at hq1 hq2
  subst hq1
  simp at hy
  simp [gY,r9,he,hv,hy,e4,hq2,hs,hpl,hpl1,hpl2,hpl3,aa,aD,gc,-getElem?_pos,List.getElem?_cons_zero,List.getElem?_cons_succ,List.getElem?_nil,ak,aw,aq,ax,ay,ag,af,take_set,ae]
set_option maxHeartbeats 2000000 in
theorem yF {k:Nat} (IH:AG k):AG (k+1):=fun t n s sp st d p bars σ ht hfd hnn n0 nd hs hp hsp h0 h1 hk hσ hbr=>by
 rw [pC]
 have hpl:p<σ.length:=bE hσ
 have hpl1:∀ j,p<σ.length+j:=fun j=>by omega
 have e3:=ml ht.len
 have hd40:=dK hfd
 have hw:IntKind.i64.wrap (st+1)=st+1:=ai _ (by omega) (by omega)
 have hfail:=au (gx 5) (by simp) (by simp)
 have tk0:∀ y (l:Sto),(σ.set p y++l).take σ.length=σ.set p y:=fun y l=>take_set y l
 have hB:∀ j x,aj bars (σ.length+j) x=true:=fun j x=>dq x fun b hb=>by have:=hbr b hb; omega
 unfold aN
 by_cases g1:20000<st+1
 ·rw [if_pos g1]
  simp [aO,r9,g1,hw,hfail,hσ,hpl,hpl1,aa,aD,gc,tk0,aj,hB,-getElem?_pos,List.getElem?_cons_zero,List.getElem?_cons_succ,List.getElem?_nil,ak,aw,aq,ax,ay,ag,af,take_set,ae]
 rw [if_neg g1]
 have hc:∀ (x:Tm) (i st:Int) (bars:List Nat) (ext:Sto),x∈t.args→0≤st→st≤20000→20000≤st+k→(∀ y∈bars,y≤σ.length+ext.length) →
   RR TT HH bars cm [.ptr p 0,x.enc,.i (n+und t.op i),s.enc,sp.enc] (σ.set p (.var [.i st])++ext)=some (if (aN k x (n+und t.op i) s sp st).2.1=0 then .ret (aN k x (n+und t.op i) s sp st).2.2.enc else .pan (fl (aN k x (n+und t.op i) s sp st).2.1),σ.set p (.var [.i (aN k x (n+und t.op i) s sp st).1])++ext):=fun x i st bars ext g1 g6 g7 g8 gb=>by
  have u0:=iX t.op i
  have u1:=kz t.op i
  rw [aX (by simp) (by simp),IH x (n+und t.op i) s sp st (d+1) p bars _ (ht.sub x g1) (cR hfd g1) (by have:=dJ g1; omega) (by omega) (by omega) hs hp hsp g6 g7 g8 (by simp [hpl,-getElem?_pos,List.getElem?_cons_zero,List.getElem?_cons_succ,List.getElem?_nil,ak,aw,aq,ax,ay,ag,af,take_set,ae]) (by simpa using gb)]
  simp [r9,hpl,-getElem?_pos,List.getElem?_cons_zero,List.getElem?_cons_succ,List.getElem?_nil,ak,aw,aq,ax,ay,ag,af,take_set,ae]
 have hlo:=gJ (T:=TT) (H:=HH) (b:=σ.length::bars) (A:=eh) t.args
  (fun i (a:Int×List Tm)=>([(0,.ptr p 0),(2,.i n),(6,.ptr σ.length 0),(8,.ptr (σ.length+1) 0),(9,.ptr (σ.length+2) 0),(10,.ptr (σ.length+3) 0),(11,.ptr (σ.length+4) 0),(35,.sl false (ab t.args)),(36,.i t.args.length),(37,.i i)],
   σ.set p (.var [.i a.1])++[.var (Enc.cells t),.var (Enc.cells s),.var (Enc.cells sp),.var [.i 0,.i 0,.i 0,.sl true []],.var [.i t.op,.i t.hd,.i t.n,.ow (σ.length+5) a.2.length (ab a.2)],.tok 4 a.2.length]))
  (fun r i a y=>if (dk (aN k) t.op n s sp r i a.1).2.1=0 then
    y=(.exit 0,[(0,.ptr p 0),(2,.i n),(6,.ptr σ.length 0),(8,.ptr (σ.length+1) 0),(9,.ptr (σ.length+2) 0),(10,.ptr (σ.length+3) 0),(11,.ptr (σ.length+4) 0)],
     σ.set p (.var [.i (dk (aN k) t.op n s sp r i a.1).1])++[.var (Enc.cells t),.var (Enc.cells s),.var (Enc.cells sp),.var [.i 0,.i 0,.i 0,.sl true []],.var [.i t.op,.i t.hd,.i t.n,.ow (σ.length+5) (a.2++(dk (aN k) t.op n s sp r i a.1).2.2).length (ab (a.2++(dk (aN k) t.op n s sp r i a.1).2.2))],.tok 4 (a.2++(dk (aN k) t.op n s sp r i a.1).2.2).length])
   else y.1=.pan (fl (dk (aN k) t.op n s sp r i a.1).2.1)∧y.2.2.take σ.length=σ.set p (.var [.i (dk (aN k) t.op n s sp r i a.1).1]))
  (fun i a=>0≤a.1∧a.1≤20000∧20000≤a.1+k∧a.2.length≤i)
  (fun a ⟨q1,q2,q3,q4⟩=>by
   have tk:∀ y (a b c d e f:Ob),(σ.set p y++[a,b,c,d,e,f]).take (σ.length+6)=σ.set p y++[a,b,c,d,e,f]:=fun y a b c d e f=>by rw [ae]; rfl
   rw [aF]
   simp [eh,dk,tk])
  (fun i x r a hx hm hd hi ⟨q1,q2,q3,q4⟩=>by
   obtain ⟨st,l⟩:=a
   simp only at q1 q2 q3 q4
   have e1:(i:Int)<t.args.length:=by omega
   have hw:IntKind.i64.wrap ((i:Int)+1)=(i:Int)+1:=ai _ (by omega) (by omega)
   have tk:∀ y (a b c d e f g:Ob),(σ.set p y++[a,b,c,d,e,f,g]).take (σ.length+6)=σ.set p y++[a,b,c,d,e,f]:=fun y a b c d e f g=>by rw [ae]; rfl
   have u0:=iX t.op i
   have u1:=kz t.op i
   have hw1:IntKind.i64.wrap (n+t.under i)=n+und t.op i:=ai _ (by rw [fb]; omega) (by rw [fb]; omega)
   have hu:=au (lS t i) (by simp) (by simp)
   have hl1:l.length+1≤LIM:=by have:=eG t.args; have:=en t; unfold LIM; omega
   have hcc:=fun (e0 e1 e2 e3 e4 e5 e6:Ob)=>hc x i st ((σ.length+6)::σ.length::bars) [e0,e1,e2,e3,e4,e5,e6] hm q1 q2 q3 (fun y hy=>by
    simp only [List.mem_cons] at hy
    simp only [List.length_cons,List.length_nil]
    rcases hy with rfl|rfl|hy
    ·omega
    ·omega
    ·have:=hbr y hy; omega)
   have hiv:=jg k x (n+und t.op i) s sp st (d+1) (ht.sub x hm) (cR hfd hm) (by omega) (by omega) hs hp hsp q1 q2
   by_cases he:(aN k x (n+und t.op i) s sp st).2.1=0
   ·have hiv:=hiv he
    simp only [if_pos he] at hcc
    refine .inr ⟨((aN k x (n+und t.op i) s sp st).1,l++[(aN k x (n+und t.op i) s sp st).2.2]),?_,⟨Int.le_trans q1 hiv.lo,hiv.hi,by have:=hiv.lo; simp only; omega,by simp; omega⟩,fun y hy=>?_⟩
    ·rw [aF]
     simp [eh,e1,hx,hcc,hu,hw,hw1,hl1,tk,aa,aD,hpl,hpl1,aj,hB,-getElem?_pos,List.getElem?_cons_zero,List.getElem?_cons_succ,List.getElem?_nil,ak,aw,aq,ax,ay,ag,af,take_set,ae]
    ·by_cases hr:(dk (aN k) t.op n s sp r (i+1) (aN k x (n+und t.op i) s sp st).1).2.1=0
     ·simpa [dk,he,hr] using hy
     ·simpa [dk,he,hr] using hy
   ·simp only [if_neg he] at hcc
    refine .inl ?_
    rw [aF]
    simp [eh,dk,he,e1,hx,hcc,hu,hw,hw1,hl1,tk,tk0,aa,aD,hpl,hpl1,aj,hB,-getElem?_pos,List.getElem?_cons_zero,List.getElem?_cons_succ,List.getElem?_nil,ak,aw,aq,ax,ay,ag,af,take_set,ae]) 0 (st+1,[]) (by omega) ⟨by simp; omega,by simp; omega,by simp; omega,by simp⟩
 obtain ⟨y,hy,hq⟩:=hlo
 simp only [List.drop_zero,Int.natCast_zero] at hq
 have hiv:=Ch (jg k) t.op n s sp d n0 nd hs hp hsp t.args 0 (st+1) ht.sub (fun x hx=>cR hfd hx) (by omega) (by omega)
 simp only [fK,uB] at hy hq
 by_cases he:(dk (aN k) t.op n s sp t.args 0 (st+1)).2.1=0
 ·obtain ⟨g1',g2,g3,g4⟩:=hiv he
  rw [if_pos he] at hq
  subst hq
  generalize hA:dk (aN k) t.op n s sp t.args 0 (st+1)=A at *
  simp at hy
  simp only [he,ne_eq,not_true,if_false]
  have hll:A.2.2.length≤4000:=by rw [g4]; have:=eG t.args; have:=en t; omega
  have hkeep:∀ n',I64 n'→∀ (bars:List Nat) (o:Nat) (σ:Sto),RR TT HH bars iQ [.agg [.i t.op,.i t.hd,.i n',.ow o A.2.2.length (ab A.2.2)]] σ=some (if (Tm.mk t.op t.hd n' A.2.2).proper then .ret (Tm.mk t.op t.hd n' A.2.2).enc else .pan (fl 5),σ):=fun n' hn' bars o σ=>by
   have hh:=ht.here
   have hsp:=pw (Tm.mk t.op t.hd n' A.2.2) ⟨⟨hh.1,hh.2.1,hn',by simp only [Tm.args_mk]; rw [g4]; exact hh.2.2.2⟩,fun x hx=>(g3 x hx).1⟩
   refine kH ?_ (by simp) (by simp) (by simp) bars σ
   rw [← hsp]
   simp [Tm.enc]
  by_cases v4:t.op=4
  ·by_cases v1:t.hd=1
   ·rcases Int.lt_trichotomy t.n n with v|v|v
    ·have v2:¬ t.n=n:=by omega
     have v3:¬ n<t.n:=by omega
     have hk1:=hkeep t.n ht.here.2.2.1
     simp only [v4,v1,v2,v3,and_false,if_false,pD] at hk1 ⊢
     rw [v4,v1] at hy
     by_cases hq:(Tm.mk 4 1 t.n A.2.2).proper=true
     ·simp only [hq,if_true] at hk1 ⊢
      simp [aO,r9,he,e3,g1,hw,hy,hk1,v4,v1,v2,v3,hσ,hpl,hpl1,eI,aa,aD,gc,tk0,aj,hB,-getElem?_pos,List.getElem?_cons_zero,List.getElem?_cons_succ,List.getElem?_nil,ak,aw,aq,ax,ay,ag,af,take_set,ae]
     ·simp only [hq,if_false] at hk1 ⊢
      simp [aO,r9,he,e3,g1,hw,hy,hk1,v4,v1,v2,v3,hσ,hpl,hpl1,eI,aa,aD,gc,tk0,aj,hB,-getElem?_pos,List.getElem?_cons_zero,List.getElem?_cons_succ,List.getElem?_nil,ak,aw,aq,ax,ay,ag,af,take_set,ae]
    ·have hmv:=au (yD s hs hp n n0 (by omega)) (by simp) (by simp)
     simp only [v4,v1,v,and_self,if_true]
     rw [v4,v1,v] at hy
     by_cases hq:(s.moved n 0).proper=true
     ·simp only [hq,if_true] at hmv ⊢
      have hmo:=o0 s hs n 0 1 (by omega) (by omega) (ar hp)
      have hap:∀ bars ext,(∀ y∈bars,y≤σ.length+ext.length)→RR TT HH bars eu [.ptr p 0,(s.moved n 0).enc,.ow (σ.length+5) A.2.2.length (ab A.2.2),sp.enc] (σ.set p (.var [.i A.1])++ext)=some (if (fH (aN k) A.2.2 (s.moved n 0) sp A.1).2.1=0 then .ret (fH (aN k) A.2.2 (s.moved n 0) sp A.1).2.2.enc else .pan (fl (fH (aN k) A.2.2 (s.moved n 0) sp A.1).2.1),σ.set p (.var [.i (fH (aN k) A.2.2 (s.moved n 0) sp A.1).1])++ext):=fun bars ext gb=>by
       rw [aX (by simp) (by simp),Co IH A.2.2 (s.moved n 0) sp A.1 p bars _ _ g3 hll hmo hq hsp (by omega) g2 (by omega) (by simp [hpl,-getElem?_pos,List.getElem?_cons_zero,List.getElem?_cons_succ,List.getElem?_nil,ak,aw,aq,ax,ay,ag,af,take_set,ae]) rfl (by simpa using gb)]
       simp [r9,hpl,-getElem?_pos,List.getElem?_cons_zero,List.getElem?_cons_succ,List.getElem?_nil,ak,aw,aq,ax,ay,ag,af,take_set,ae]
      have hap:=fun (e0 e1 e2 e3 e4 e5:Ob)=>hap (σ.length::bars) [e0,e1,e2,e3,e4,e5] (fun y hy=>by
       simp only [List.mem_cons] at hy
       simp only [List.length_cons,List.length_nil]
       rcases hy with rfl|hy
       ·omega
       ·have:=hbr y hy; omega)
      have hiv:=Ci (jg k) A.2.2 (s.moved n 0) sp A.1 g3 hmo hq hsp (by omega) g2
      by_cases hz:(fH (aN k) A.2.2 (s.moved n 0) sp A.1).2.1=0
      ·have hiv:=hiv hz
       have hkr:=au (pw _ hiv.ok) (by simp) (by simp)
       simp only [hiv.pr,hz,if_true] at hkr hap
       simp [aO,r9,he,e3,g1,hw,hy,hmv,hap,hkr,hz,v4,v1,v,hσ,hpl,hpl1,aa,aD,gc,tk0,aj,hB,-getElem?_pos,List.getElem?_cons_zero,List.getElem?_cons_succ,List.getElem?_nil,ak,aw,aq,ax,ay,ag,af,take_set,ae]
      ·simp only [hz,if_false] at hap
       simp [aO,r9,he,e3,g1,hw,hy,hmv,hap,hz,v4,v1,v,hσ,hpl,hpl1,aa,aD,gc,tk0,aj,hB,-getElem?_pos,List.getElem?_cons_zero,List.getElem?_cons_succ,List.getElem?_nil,ak,aw,aq,ax,ay,ag,af,take_set,ae]
     ·simp only [hq,if_false] at hmv ⊢
      simp [aO,r9,he,e3,g1,hw,hy,hmv,v4,v1,v,hσ,hpl,hpl1,aa,aD,gc,tk0,aj,hB,-getElem?_pos,List.getElem?_cons_zero,List.getElem?_cons_succ,List.getElem?_nil,ak,aw,aq,ax,ay,ag,af,take_set,ae]
    ·have v2:¬ t.n=n:=by omega
     have hwn:IntKind.i64.wrap (t.n - 1)=t.n - 1:=ai _ (by omega) (by have:=ht.here.2.2.1.2; omega)
     have hk1:=hkeep (t.n - 1) (by have:=ht.here.2.2.1; unfold I64 at *; omega)
     simp only [v4,v1,v2,v,and_self,and_false,if_true,if_false,pD] at hk1 ⊢
     rw [v4,v1] at hy
     by_cases hq:(Tm.mk 4 1 (t.n - 1) A.2.2).proper=true
     ·simp only [hq,if_true] at hk1 ⊢
      simp [aO,r9,he,e3,g1,hw,hwn,hy,hk1,v4,v1,v2,v,hσ,hpl,hpl1,eI,aa,aD,gc,tk0,aj,hB,-getElem?_pos,List.getElem?_cons_zero,List.getElem?_cons_succ,List.getElem?_nil,ak,aw,aq,ax,ay,ag,af,take_set,ae]
     ·simp only [hq,if_false] at hk1 ⊢
      simp [aO,r9,he,e3,g1,hw,hwn,hy,hk1,v4,v1,v2,v,hσ,hpl,hpl1,eI,aa,aD,gc,tk0,aj,hB,-getElem?_pos,List.getElem?_cons_zero,List.getElem?_cons_succ,List.getElem?_nil,ak,aw,aq,ax,ay,ag,af,take_set,ae]
   ·have hk1:=hkeep t.n ht.here.2.2.1
    simp only [v4,v1,false_and,and_false,if_false,pD] at hk1 ⊢
    rw [v4] at hy
    by_cases hq:(Tm.mk 4 t.hd t.n A.2.2).proper=true
    ·simp only [hq,if_true] at hk1 ⊢
     simp [aO,r9,he,e3,g1,hw,hy,hk1,v4,v1,hσ,hpl,hpl1,eI,aa,aD,gc,tk0,aj,hB,-getElem?_pos,List.getElem?_cons_zero,List.getElem?_cons_succ,List.getElem?_nil,ak,aw,aq,ax,ay,ag,af,take_set,ae]
    ·simp only [hq,if_false] at hk1 ⊢
     simp [aO,r9,he,e3,g1,hw,hy,hk1,v4,v1,hσ,hpl,hpl1,eI,aa,aD,gc,tk0,aj,hB,-getElem?_pos,List.getElem?_cons_zero,List.getElem?_cons_succ,List.getElem?_nil,ak,aw,aq,ax,ay,ag,af,take_set,ae]
  ·have hk1:=hkeep t.n ht.here.2.2.1
   simp only [v4,false_and,if_false,pD] at hk1 ⊢
   by_cases hq:(Tm.mk t.op t.hd t.n A.2.2).proper=true
   ·simp only [hq,if_true] at hk1 ⊢
    simp [aO,r9,he,e3,g1,hw,hy,hk1,v4,hσ,hpl,hpl1,eI,aa,aD,gc,tk0,aj,hB,-getElem?_pos,List.getElem?_cons_zero,List.getElem?_cons_succ,List.getElem?_nil,ak,aw,aq,ax,ay,ag,af,take_set,ae]
   ·simp only [hq,if_false] at hk1 ⊢
    simp [aO,r9,he,e3,g1,hw,hy,hk1,v4,hσ,hpl,hpl1,eI,aa,aD,gc,tk0,aj,hB,-getElem?_pos,List.getElem?_cons_zero,List.getElem?_cons_succ,List.getElem?_nil,ak,aw,aq,ax,ay,ag,af,take_set,ae]
 ·rw [if_neg he] at hq
  obtain ⟨y1,y2,y3⟩:=y
  obtain ⟨hq1,hq2⟩:=hq
  simp only at hq1 hq2
  subst hq1
  simp at hy
  simp [aO,r9,he,e3,g1,hw,hy,hq2,hσ,hpl,hpl1,aa,aD,gc,aj,hB,-getElem?_pos,List.getElem?_cons_zero,List.getElem?_cons_succ,List.getElem?_nil,ak,aw,aq,ax,ay,ag,af,take_set,ae]
end Go.Ev

namespace Go.Ev
theorem Eg (op i:Int):(op=3∧und op i=1)∨(op=2∧i=1∧und op i=1)∨(op=2∧i≠1∧und op i=0)∨(op≠2∧op≠3∧und op i=0):=by
 unfold und
 by_cases a:op=3
 ·simp [a]
 ·by_cases b:op=2
  ·by_cases c:i=1<;>simp [b,c]
  ·simp [a,b]
set_option maxHeartbeats 1000000 in
theorem yG:∀ t:Tm,t.ok→∀ (k f d:Int),-9999≤k→k≤9999→t.formed d=true→0≤f→f≤20000+d→t.nodes≤4000 →
  az TT HH [] lb [t.enc,.i k,.i f] []=some (.ret (t.moved k f).enc,[]) :=
 Tm.ind fun t ih hok k f d hk0 hk1 hf h0 h1 hln=>by
  rw [B6,uw]
  have e3:=ml hok.len
  have hd40:=dK hf
  have hn:=en t
  have hal:=eG t.args
  have hsh:=fw hf
  have hlo:=fun (n':Int)=>be (T:=TT) (H:=HH) (b:=[0]) (A:=eE) t.args
   (fun i (l:List Tm)=>([(1,.i k),(2,.i f),(3,.ptr 0 0),(6,.ptr 1 0),(7,.ptr 3 0),(8,.i i)],[.var [.i t.op,.i t.hd,.i t.n,.sl false (ab t.args)],.var [.i 0,.i 0,.i 0,.ow 2 0 []],.tok 4 0,.var [.i t.op,.i t.hd,.i n',.ow 4 l.length (ab l)],.tok 4 l.length]))
   (fun r i l=>(.exit 0,[(6,.ptr 1 0),(7,.ptr 3 0)],[.var [.i t.op,.i t.hd,.i t.n,.sl false (ab t.args)],.var [.i 0,.i 0,.i 0,.ow 2 0 []],.tok 4 0,.var [.i t.op,.i t.hd,.i n',.ow 4 (l++Tm.movedL t.op r i k f).length (ab (l++Tm.movedL t.op r i k f))],.tok 4 (l++Tm.movedL t.op r i k f).length]))
   (fun i l=>l.length≤i)
   (fun l _=>by
    rw [aF]
    simp [eE,e3,Tm.movedL])
   (fun i x r l hx hm hd hi hv=>by
    have e1:(i:Int)<t.args.length:=by omega
    have hw:IntKind.i64.wrap ((i:Int)+1)=(i:Int)+1:=ai _ (by omega) (by omega)
    have u0:=iX t.op i
    have u1:=kz t.op i
    have hw1:IntKind.i64.wrap (f+und t.op i)=f+und t.op i:=ai _ (by omega) (by omega)
    have hns:=dJ hm
    have hc:=au (ih x hm (hok.sub x hm) k (f+und t.op i) (d+1) hk0 hk1 (cR hf hm) (by omega) (by omega) (by omega)) (by simp) (by simp)
    have hl1:l.length+1≤LIM:=by unfold LIM; omega
    refine .inr ⟨l++[x.moved k (f+und t.op i)],?_,by simp; omega,by simp [Tm.movedL]⟩
    rw [aF]
    clear ih
    rcases Eg t.op i with ⟨c1,c2⟩|⟨c1,c2,c3⟩|⟨c1,c2,c3⟩|⟨c1,c2,c3⟩
    ·rw [c1] at c2 hw1 hc ⊢; rw [c2] at hw1 hc ⊢
     simp [eE,e1,e3,hx,hc,hw,hw1,hl1,aa,aj]
    ·rw [c1] at c3 hw1 hc ⊢; rw [c3] at hw1 hc ⊢
     obtain rfl:i=1:=by omega
     have e1:(1:Int)<t.args.length:=by omega
     have hw:IntKind.i64.wrap 2=2:=ai _ (by omega) (by omega)
     simp [eE,e1,e3,hx,hc,hw,hw1,hl1,aa,aj]
    ·rw [c1] at c3 hw1 hc ⊢; rw [c3] at hw1 hc ⊢
     simp only [Int.add_zero] at hw1 hc ⊢
     simp [eE,e1,e3,hx,hc,hw,hw1,hl1,aa,aj,c2]
    ·rw [c3] at hw1 hc ⊢
     simp only [Int.add_zero] at hw1 hc ⊢
     simp [eE,e1,e3,hx,hc,hw,hw1,hl1,aa,aj,c1,c2]) 0 [] (by omega) (by simp)
  simp at hlo
  clear ih
  by_cases a1:t.op=4∧t.hd=1∧f≤t.n
  ·have hnb:=(jq hsh a1.1).2.2
   have hw:IntKind.i64.wrap (t.n+k)=t.n+k:=ai _ (by omega) (by omega)
   have hlo:=hlo (t.n+k)
   rw [if_pos a1]
   obtain ⟨a1,a2,a3⟩:=a1
   simp [a1,a2] at hlo
   simp [iF,a1,a2,a3,hw,hlo,Tm.enc,aj]
  ·have hlo:=hlo t.n
   rw [if_neg a1]
   by_cases a2:t.op=4
   ·by_cases a3:t.hd=1
    ·have a4:¬ f≤t.n:=fun h=>a1 ⟨a2,a3,h⟩
     simp [a2,a3] at hlo
     simp [iF,a2,a3,a4,hlo,Tm.enc,aj]
    ·simp [a2] at hlo
     simp [iF,a2,a3,hlo,Tm.enc,aj]
   ·simp [iF,a2,hlo,Tm.enc,aj]
theorem xg (t:Tm) (h:t.ok) (k d:Int) (hk0:-9999≤k) (hk1:k≤9999) (hf:t.formed d=true) (hd:0≤d) (hn:t.nodes≤4000):az TT HH [] m0 [t.enc,.i k] []=some (.ret (t.moved k 0).enc,[]):=by
 rw [zS]
 have h1:=au (yG t h k 0 d hk0 hk1 hf (by omega) (by omega) hn) (by simp) (by simp)
 simp [lQ,h1,aa,aD]
 repeat' ((first|refine bJ ?_ ?_|refine bn ?_ ?_|refine bK ?_ ?_|refine bI ?_ ?_|refine bo ?_ ?_)<;>intro h<;>(try simp only [decide_eq_true_eq,decide_eq_false_iff_not,Bool.not_eq_true] at h)<;>simp [h,lQ,h1,aa,aD])
theorem kI (t:Tm) (h:t.ok):az TT HH [] eL [t.enc] []=some (.ret (if t.proper then .tup [t.enc,.i 0] else .tup [tz.enc,.i 5]),[]):=by
 rw [BR]
 have h1:=au (bN t h) (by simp) (by simp)
 cases hp:t.proper<;>rw [hp] at h1
 all_goals simp [nq,h1,aa,aD]
 repeat' ((first|refine bJ ?_ ?_|refine bn ?_ ?_|refine bK ?_ ?_|refine bI ?_ ?_|refine bo ?_ ?_)<;>intro h<;>(try simp only [decide_eq_true_eq,decide_eq_false_iff_not,Bool.not_eq_true] at h)<;>simp [h,nq,h1,aa,aD])
 all_goals simp [tz,Tm.enc]
theorem xi (n:Int):az TT HH [] mW [.i n] []=some (.ret (.b (decide (0≤n) && decide (n≤9999))),[]):=by
 rw [zL]
 simp [lI,aa,aD]
 repeat' ((first|refine bJ ?_ ?_|refine bn ?_ ?_|refine bK ?_ ?_|refine bI ?_ ?_|refine bo ?_ ?_)<;>intro h<;>(try simp only [decide_eq_true_eq,decide_eq_false_iff_not,Bool.not_eq_true] at h)<;>simp [h,lI,aa,aD])
 all_goals simp_all
theorem z6 (l:List Tm) (h:∀ x∈l,x.ok∧x.proper=true) (hl:l.length≤600) (tt:Bool):az TT HH [] mQ [.sl tt (ab l)] []=some (.ret (.b true),[]):=by
 rw [Dd]
 have e3:l.length<9223372036854775808:=by omega
 have e4:(l.length:Int)≤600:=by omega
 have hlo:=be (T:=TT) (H:=HH) (b:=[0]) (A:=lF) l
  (fun i (_:Unit)=>([(0,.sl false (ab l)),(3,.i i)],[]))
  (fun r i _=>(.exit 0,[(0,.sl false (ab l))],[]))
  (fun _ _=>True)
  (fun _ _=>by
   rw [aF]
   simp [lF,e3])
  (fun i x r _ hx hm hd hi _=>by
   have e1:(i:Int)<l.length:=by omega
   have hw:IntKind.i64.wrap ((i:Int)+1)=(i:Int)+1:=ai _ (by omega) (by omega)
   have hc:=au (bN x (h x hm).1) (by simp) (by simp)
   rw [(h x hm).2] at hc
   refine .inr ⟨(),?_,trivial,rfl⟩
   rw [aF]
   simp [lF,e1,e3,e4,hx,hc,hw,aa]) 0 () (by omega) trivial
 simp at hlo
 simp [rR,hlo,e3,e4]
mutual
def Sp.kc:Sp→Int→Int
 | .mk args _,m=>min (Sp.kn args m 1) (m+1)
def Sp.kn:List Sp→Int→Int→Int
 | [],_,n=>n
 | t::r,m,n=>if n≤m then Sp.kn r m (n+t.kc (m - n)) else n
end
theorem R0:∀ (t:Sp) (m:Int),t.kc m=min (Sp.kn t.args m 1) (m+1)
 | .mk _ _,_=>by rw [Sp.kc]; rfl
mutual
theorem Nw:∀ (t:Sp) (m:Int),0≤m→t.kc m=min (t.cons:Int) (m+1)
 | .mk args con,m,h0=>by
  have h:=Nx args m 1 (by omega) (by omega)
  rw [Sp.kc,Sp.cons,h.1]
  push_cast; rfl
theorem Nx:∀ (l:List Sp) (m n:Int),1≤n→n≤m+1→min (Sp.kn l m n) (m+1)=min (n+Sp.consL l:Int) (m+1)∧n≤Sp.kn l m n∧Sp.kn l m n≤m+1
 | [],m,n,h0,h1=>by rw [Sp.kn,Sp.consL]; simp; omega
 | t::r,m,n,h0,h1=>by
  rw [Sp.kn,Sp.consL]
  push_cast
  have hp:=oK t
  by_cases h:n≤m
  ·have hk:=Nw t (m - n) (by omega)
   rw [if_pos h,hk]
   have:=Nx r m (n+min (t.cons:Int) (m - n+1)) (by omega) (by omega)
   omega
  ·rw [if_neg h]
   omega
end
theorem uG:∀ t:Sp,t.ok→∀ m:Int,0≤m→m≤600→t.fits=true→az TT HH [] gC [t.enc,.i m] []=some (.ret (.i (t.kc m)),[]) :=
 Sp.ind fun t ih hok m h0 h1 hft=>by
  rw [v8,R0]
  have e3:=ml hok.len
  have hf:=hft
  rw [yz] at hf
  simp only [Bool.and_eq_true,decide_eq_true_eq] at hf
  have hfm:∀ (l:List Sp),Sp.fitsL l=true→∀ x∈l,x.fits=true:=by
   intro l
   induction l with
   | nil=>intro _ x h; cases h
   | cons a r ih =>
    intro h x hx
    rw [Sp.fitsL,Bool.and_eq_true] at h
    rcases List.mem_cons.1 hx with rfl|hx
    ·exact h.1
    ·exact ih h.2 x hx
  have hfm:=hfm _ hf.2.2
  have g1:¬ t.con<0:=by omega
  have g2:¬ 9999<t.con:=by omega
  have hkn:=Nx t.args m 1 (by omega) (by omega)
  have hlo:=be (T:=TT) (H:=HH) (b:=[0]) (A:=eW) t.args
   (fun i (n:Int)=>([(1,.i m),(2,.ptr 0 0),(5,.i n),(6,.i i)],[.var [.sl false (ab t.args),.i t.con]]))
   (fun r i n=>(.exit 0,[(1,.i m),(5,.i (Sp.kn r m n))],[.var [.sl false (ab t.args),.i t.con]]))
   (fun i n=>1≤n∧n≤m+1)
   (fun n _=>by
    rw [aF]
    simp [eW,e3,Sp.kn])
   (fun i x r n hx hm hd hi ⟨q0,q1⟩=>by
    have e1:(i:Int)<t.args.length:=by omega
    have hw:IntKind.i64.wrap ((i:Int)+1)=(i:Int)+1:=ai _ (by omega) (by omega)
    by_cases hn:n≤m
    ·have hc:=au (ih x hm (hok.sub x hm) (m - n) (by omega) (by omega) (hfm x hm)) (by simp) (by simp)
     have hk:=Nw x (m - n) (by omega)
     have hp:=oK x
     have k0:¬ x.kc (m - n)<0:=by omega
     have hw1:IntKind.i64.wrap (m - n)=m - n:=ai _ (by omega) (by omega)
     have hw2:IntKind.i64.wrap (n+x.kc (m - n))=n+x.kc (m - n):=ai _ (by omega) (by omega)
     refine .inr ⟨n+x.kc (m - n),?_,by omega,by simp [Sp.kn,hn]⟩
     rw [aF]
     simp [eW,e1,e3,hx,hc,hw,hw1,hw2,k0,hn,aD]
    ·refine .inl ⟨?_,by simp⟩
     rw [aF]
     simp [eW,e1,e3,hn,Sp.kn]) 0 1 (by omega) (by omega)
  simp at hlo
  have hw3:IntKind.i64.wrap (m+1)=m+1:=ai _ (by omega) (by omega)
  simp [l9,g1,g2,hlo,hw3]
theorem n9 (t:Sp) (h:t.ok) (hs:t.small=true):az TT HH [] gS [t.enc] []=some (.ret (.b true),[]):=by
 rw [BQ]
 unfold Sp.small at hs
 simp only [Bool.and_eq_true,decide_eq_true_eq] at hs
 have h1:=au (uG t h 600 (by omega) (by omega) hs.2) (by simp) (by simp)
 have hk:=Nw t 600 (by omega)
 have hp:=oK t
 have k1:1≤t.kc 600:=by omega
 have k2:t.kc 600≤600:=by omega
 simp [qB,h1,k1,k2,aD]
end Go.Ev

namespace Go.Ev
def px (p:Nat) (σ:Sto) (r:SR):Option (Out×Sto):=some (.ret (.tup [r.2.2.enc,.i r.2.1]),σ.set p (.var [.i r.1]))
def AH (k:Nat):Prop:=∀ (t:Tm) (n:Int) (s:Tm) (sp:Sp) (st d:Int) (p:Nat) (bars:List Nat) (σ:Sto),t.ok→t.formed d=true→t.nodes≤600→0≤n→n+41 - d≤9999→s.ok→s.proper=true→sp.ok→0≤st→st≤20000→20000≤st+k→σ[p]? = some (.var [.i st])→(∀ y∈bars,y≤σ.length) →
 az TT HH bars cT [.ptr p 0,t.enc,.i n,s.enc,sp.enc] σ=px p σ (aN k t n s sp st)
set_option maxHeartbeats 2000000 in
theorem Cp {k:Nat} (IH:AH k):∀ (l:List Tm) (f:Tm) (sp:Sp) (st:Int) (p:Nat) (bars:List Nat) (σ:Sto) (v:PV),(∀ x∈l,x.ok∧x.proper=true)→l.length≤4000→f.ok→f.proper=true→sp.ok→0≤st→st≤20000→20000≤st+k→σ[p]? = some (.var [.i st])→norm v=.sl false (ab l)→(∀ y∈bars,y≤σ.length) →
  az TT HH bars cM [.ptr p 0,f.enc,v,sp.enc] σ=px p σ (fH (aN k) l f sp st):=by
 intro l
 induction l with
 | nil =>
  intro f sp st p bars σ v hl hll hf hp hsp h0 h1 hk hs hv hbr
  rw [oY]
  have hpl:p<σ.length:=bE hs
  have hpl1:∀ j,p<σ.length+j:=fun j=>by omega
  have tk0:∀ (l:Sto),(σ++l).take σ.length=σ:=fun l=>List.take_left
  have hS0:σ.set p (.var [.i st])=σ:=wL hs
  have hB:∀ j x,aj bars (σ.length+j) x=true:=fun j x=>dq x fun b hb=>by have:=hbr b hb; omega
  have hB0:∀ x,aj bars σ.length x=true:=fun x=>dq x fun b hb=>hbr b hb
  have hw:=au (kI f hf) (by simp) (by simp)
  rw [hp] at hw
  simp [c8,px,fH,hp,hv,hw,hpl,hpl1,hS0,aa,aD,tk0,aj,hB,hB0,-getElem?_pos,List.getElem?_cons_zero,List.getElem?_cons_succ,List.getElem?_nil,ak,aw,aq,ax,ay,ag,af,take_set,ae]
 | cons x r ih =>
  intro f sp st p bars σ v hl hll hf hp hsp h0 h1 hk hs hv hbr
  rw [oY]
  have hpl:p<σ.length:=bE hs
  have hpl1:∀ j,p<σ.length+j:=fun j=>by omega
  have tk0:∀ (l:Sto),(σ++l).take σ.length=σ:=fun l=>List.take_left
  have tks:∀ y (l:Sto),(σ.set p y++l).take σ.length=σ.set p y:=fun y l=>take_set y l
  have hS0:σ.set p (.var [.i st])=σ:=wL hs
  have hB:∀ j x,aj bars (σ.length+j) x=true:=fun j x=>dq x fun b hb=>by have:=hbr b hb; omega
  have hB0:∀ x,aj bars σ.length x=true:=fun x=>dq x fun b hb=>hbr b hb
  have e4:(r.length:Int)+1≠0:=by omega
  have e5:¬ (r.length:Int)+1=0:=by omega
  have e6:(0:Int)<(r.length:Int)+1:=by omega
  have e7:r.length+1<9223372036854775808:=by simp at hll; omega
  have e8:(1:Int)≤(r.length:Int)+1:=by omega
  have e3:=ml hsp.len
  have hT1:List.take r.length (ab (x::r)).tail=ab r:=by simp [aB]
  by_cases h3:f.op=3
  ·obtain ⟨b,hb,hfb⟩:=Fp hp h3
   have hbn:b.nodes≤600:=by have:=dJ (t:=f) (x:=b) (by rw [hb]; simp); have:=aI hp; omega
   cases hq:sp.args with
   | nil =>
    simp [c8,px,fH,hv,h3,hb,hq,e5,e6,e7,hpl,hpl1,hS0,aa,aD,tk0,aj,hB,hB0,-getElem?_pos,List.getElem?_cons_zero,List.getElem?_cons_succ,List.getElem?_nil,ak,aw,aq,ax,ay,ag,af,take_set,ae]
    simp [tz,Tm.enc]
   | cons s q =>
    have hso:s.ok:=hsp.sub s (by rw [hq]; simp)
    have hql:(Sp.mk q sp.con).ok:=by have:=PK hsp 1; rw [hq] at this; exact this
    have hcp:∀ (e0 e1 e2:Ob),RR TT HH (σ.length::bars) cT [.ptr p 0,b.enc,.i 0,x.enc,s.enc] (σ++[e0,e1,e2])=some (.ret (.tup [(aN k b 0 x s st).2.2.enc,.i (aN k b 0 x s st).2.1]),σ.set p (.var [.i (aN k b 0 x s st).1])++[e0,e1,e2]):=fun e0 e1 e2=>by
     rw [aX (by simp) (by simp),IH b 0 x s st 2 p _ _ (hf.sub b (by rw [hb]; simp)) hfb hbn (by omega) (by omega) (hl x (by simp)).1 (hl x (by simp)).2 hso h0 h1 hk (by simp [hpl,hs,-getElem?_pos,List.getElem?_cons_zero,List.getElem?_cons_succ,List.getElem?_nil,ak,aw,aq,ax,ay,ag,af,take_set,ae]) (fun y hy=>by
      simp only [List.mem_cons] at hy
      simp only [List.length_append,List.length_cons,List.length_nil]
      rcases hy with rfl|hy
      ·omega
      ·have:=hbr y hy; omega)]
     simp [px,hpl,-getElem?_pos,List.getElem?_cons_zero,List.getElem?_cons_succ,List.getElem?_nil,ak,aw,aq,ax,ay,ag,af,take_set,ae]
    have hT2:List.take q.length (ab (s::q)).tail=ab q:=by simp [aB]
    have hlen:(q.length:Int)+1≤maxLen:=by have:=hsp.len; rw [hq] at this; simp at this; omega
    have e9:q.length+1<9223372036854775808:=by rw [hq] at e3; simpa using e3
    have e10:(0:Int)<(q.length:Int)+1:=by omega
    have e11:¬ (q.length:Int)+1=0:=by omega
    have e12:(1:Int)≤(q.length:Int)+1:=by omega
    have hiv:=jg k b 0 x s st 2 (hf.sub b (by rw [hb]; simp)) hfb (by omega) (by omega) (hl x (by simp)).1 (hl x (by simp)).2 hso h0 h1
    by_cases he:(aN k b 0 x s st).2.1=0
    ·have hiv:=hiv he
     have hrec:∀ (e0 e1 e2 e3:Ob),RR TT HH (σ.length::bars) cM [.ptr p 0,(aN k b 0 x s st).2.2.enc,.sl false (ab r),(Sp.mk q sp.con).enc] (σ.set p (.var [.i (aN k b 0 x s st).1])++[e0,e1,e2,e3])=some (.ret (.tup [(fH (aN k) r (aN k b 0 x s st).2.2 (.mk q sp.con) (aN k b 0 x s st).1).2.2.enc,.i (fH (aN k) r (aN k b 0 x s st).2.2 (.mk q sp.con) (aN k b 0 x s st).1).2.1]),σ.set p (.var [.i (fH (aN k) r (aN k b 0 x s st).2.2 (.mk q sp.con) (aN k b 0 x s st).1).1])++[e0,e1,e2,e3]):=fun e0 e1 e2 e3=>by
      rw [aX (by simp) (by simp),ih (aN k b 0 x s st).2.2 (Sp.mk q sp.con) (aN k b 0 x s st).1 p _ _ (.sl false (ab r)) (fun z hz=>hl z (by simp [hz])) (by simp at hll; omega) hiv.ok hiv.pr hql (Int.le_trans h0 hiv.lo) hiv.hi (by have:=hiv.lo; omega) (by simp [hpl,-getElem?_pos,List.getElem?_cons_zero,List.getElem?_cons_succ,List.getElem?_nil,ak,aw,aq,ax,ay,ag,af,take_set,ae]) rfl (fun y hy=>by
       simp only [List.mem_cons] at hy
       simp only [List.length_append,List.length_set,List.length_cons,List.length_nil]
       rcases hy with rfl|hy
       ·omega
       ·have:=hbr y hy; omega)]
      simp [px,hpl,-getElem?_pos,List.getElem?_cons_zero,List.getElem?_cons_succ,List.getElem?_nil,ak,aw,aq,ax,ay,ag,af,take_set,ae]
     simp [Sp.enc] at hrec
     simp [c8,px,fH,hv,h3,hb,hq,he,e5,e6,e7,e8,e9,e10,e11,e12,hT1,hT2,hcp,hrec,hpl,hpl1,aa,aD,tks,aj,hB,hB0,-getElem?_pos,List.getElem?_cons_zero,List.getElem?_cons_succ,List.getElem?_nil,ak,aw,aq,ax,ay,ag,af,take_set,ae]
    ·simp [c8,px,fH,hv,h3,hb,hq,he,e5,e6,e7,e8,e9,e10,e11,e12,hcp,hpl,hpl1,aa,aD,tks,aj,hB,hB0,-getElem?_pos,List.getElem?_cons_zero,List.getElem?_cons_succ,List.getElem?_nil,ak,aw,aq,ax,ay,ag,af,take_set,ae]
     simp [tz,Tm.enc]
  ·simp [c8,px,fH,hv,h3,e5,e6,e7,hpl,hpl1,hS0,aa,aD,tk0,aj,hB,hB0,-getElem?_pos,List.getElem?_cons_zero,List.getElem?_cons_succ,List.getElem?_nil,ak,aw,aq,ax,ay,ag,af,take_set,ae]
   simp [tz,Tm.enc]
end Go.Ev

namespace Go.Ev
def uH (σ:Sto) (p:Nat) (t s:Tm) (sp:Sp) (c e:Int) (l:List Tm):Ex×Env×Sto:=(.ret,[(10,.ptr (σ.length+3) 0),(11,.i e)],σ.set p (.var [.i c])++[.var (Enc.cells t),.var (Enc.cells s),.var (Enc.cells sp),.var [.i 0,.i 0,.i 0,.sl true []],.var [.i t.op,.i t.hd,.i t.n,.ow (σ.length+5) l.length (ab l)],.tok 4 l.length])
set_option maxHeartbeats 4000000 in
theorem Cq {k:Nat} (IH:AH k):AH (k+1):=fun t n s sp st d p bars σ ht hfd hnn n0 nd hs hp hsp h0 h1 hk hσ hbr=>by
 rw [qH]
 have hpl:p<σ.length:=bE hσ
 have hpl1:∀ j,p<σ.length+j:=fun j=>by omega
 have e3:=ml ht.len
 have hd40:=dK hfd
 have hw:IntKind.i64.wrap (st+1)=st+1:=ai _ (by omega) (by omega)
 have tk0:∀ y (l:Sto),(σ.set p y++l).take σ.length=σ.set p y:=fun y l=>take_set y l
 have hB:∀ j x,aj bars (σ.length+j) x=true:=fun j x=>dq x fun b hb=>by have:=hbr b hb; omega
 unfold aN
 by_cases g1:20000<st+1
 ·rw [if_pos g1]
  simp [aZ,px,g1,hw,hσ,hpl,hpl1,aa,aD,tk0,aj,hB,-getElem?_pos,List.getElem?_cons_zero,List.getElem?_cons_succ,List.getElem?_nil,ak,aw,aq,ax,ay,ag,af,take_set,ae]
  simp [tz,Tm.enc]
 rw [if_neg g1]
 have hc:∀ (x:Tm) (i st:Int) (bars:List Nat) (ext:Sto),x∈t.args→0≤st→st≤20000→20000≤st+k→(∀ y∈bars,y≤σ.length+ext.length) →
   RR TT HH bars cT [.ptr p 0,x.enc,.i (n+und t.op i),s.enc,sp.enc] (σ.set p (.var [.i st])++ext)=some (.ret (.tup [(aN k x (n+und t.op i) s sp st).2.2.enc,.i (aN k x (n+und t.op i) s sp st).2.1]),σ.set p (.var [.i (aN k x (n+und t.op i) s sp st).1])++ext):=fun x i st bars ext g1 g6 g7 g8 gb=>by
  have u0:=iX t.op i
  have u1:=kz t.op i
  rw [aX (by simp) (by simp),IH x (n+und t.op i) s sp st (d+1) p bars _ (ht.sub x g1) (cR hfd g1) (by have:=dJ g1; omega) (by omega) (by omega) hs hp hsp g6 g7 g8 (by simp [hpl,-getElem?_pos,List.getElem?_cons_zero,List.getElem?_cons_succ,List.getElem?_nil,ak,aw,aq,ax,ay,ag,af,take_set,ae]) (by simpa using gb)]
  simp [px,hpl,-getElem?_pos,List.getElem?_cons_zero,List.getElem?_cons_succ,List.getElem?_nil,ak,aw,aq,ax,ay,ag,af,take_set,ae]
 have hlo:=gJ (T:=TT) (H:=HH) (b:=σ.length::bars) (A:=bu) t.args
  (fun i (a:Int×List Tm)=>([(0,.ptr p 0),(2,.i n),(6,.ptr σ.length 0),(8,.ptr (σ.length+1) 0),(9,.ptr (σ.length+2) 0),(10,.ptr (σ.length+3) 0),(12,.ptr (σ.length+4) 0),(13,.i i)],
   σ.set p (.var [.i a.1])++[.var (Enc.cells t),.var (Enc.cells s),.var (Enc.cells sp),.var [.i 0,.i 0,.i 0,.sl true []],.var [.i t.op,.i t.hd,.i t.n,.ow (σ.length+5) a.2.length (ab a.2)],.tok 4 a.2.length]))
  (fun r i a y=>if (dk (aN k) t.op n s sp r i a.1).2.1=0 then
    y=(.exit 0,[(0,.ptr p 0),(2,.i n),(6,.ptr σ.length 0),(8,.ptr (σ.length+1) 0),(9,.ptr (σ.length+2) 0),(10,.ptr (σ.length+3) 0),(12,.ptr (σ.length+4) 0)],
     σ.set p (.var [.i (dk (aN k) t.op n s sp r i a.1).1])++[.var (Enc.cells t),.var (Enc.cells s),.var (Enc.cells sp),.var [.i 0,.i 0,.i 0,.sl true []],.var [.i t.op,.i t.hd,.i t.n,.ow (σ.length+5) (a.2++(dk (aN k) t.op n s sp r i a.1).2.2).length (ab (a.2++(dk (aN k) t.op n s sp r i a.1).2.2))],.tok 4 (a.2++(dk (aN k) t.op n s sp r i a.1).2.2).length])
   else ∃ l:List Tm,y=uH σ p t s sp (dk (aN k) t.op n s sp r i a.1).1 (dk (aN k) t.op n s sp r i a.1).2.1 l)
  (fun i a=>0≤a.1∧a.1≤20000∧20000≤a.1+k∧a.2.length≤i)
  (fun a ⟨q1,q2,q3,q4⟩=>by
   have tk:∀ y (a b c d e f:Ob),(σ.set p y++[a,b,c,d,e,f]).take (σ.length+6)=σ.set p y++[a,b,c,d,e,f]:=fun y a b c d e f=>by rw [ae]; rfl
   rw [aF]
   simp [bu,dk,tk,e3])
  (fun i x r a hx hm hd hi ⟨q1,q2,q3,q4⟩=>by
   obtain ⟨st,l⟩:=a
   simp only at q1 q2 q3 q4
   have e1:(i:Int)<t.args.length:=by omega
   have hw:IntKind.i64.wrap ((i:Int)+1)=(i:Int)+1:=ai _ (by omega) (by omega)
   have tk:∀ y (a b c d e f:Ob) (l:Sto),(σ.set p y++a::b::c::d::e::f::l).take (σ.length+6)=σ.set p y++[a,b,c,d,e,f]:=fun y a b c d e f l=>by rw [ae]; rfl
   have u0:=iX t.op i
   have u1:=kz t.op i
   have hw1:IntKind.i64.wrap (n+und t.op i)=n+und t.op i:=ai _ (by omega) (by omega)
   have hl1:l.length+1≤LIM:=by have:=eG t.args; have:=en t; unfold LIM; omega
   have hcc:=fun (e0 e1 e2 e3 e4 e5:Ob)=>hc x i st ((σ.length+6)::σ.length::bars) [e0,e1,e2,e3,e4,e5] hm q1 q2 q3 (fun y hy=>by
    simp only [List.mem_cons] at hy
    simp only [List.length_cons,List.length_nil]
    rcases hy with rfl|rfl|hy
    ·omega
    ·omega
    ·have:=hbr y hy; omega)
   have hiv:=jg k x (n+und t.op i) s sp st (d+1) (ht.sub x hm) (cR hfd hm) (by omega) (by omega) hs hp hsp q1 q2
   have hund:∀ (R:Prop),(∀ (u:Int),und t.op i=u→(t.op=3∧u=1)∨(t.op=2∧i=1∧u=1)∨(t.op=2∧¬ ((i:Int)=1)∧u=0)∨(¬ t.op=2∧¬ t.op=3∧u=0)→R)→R:=fun R h=>h _ rfl (by
    rcases Eg t.op i with ⟨c1,c2⟩|⟨c1,c2,c3⟩|⟨c1,c2,c3⟩|⟨c1,c2,c3⟩
    ·exact .inl ⟨c1,c2⟩
    ·exact .inr (.inl ⟨c1,by omega,c3⟩)
    ·exact .inr (.inr (.inl ⟨c1,c2,c3⟩))
    ·exact .inr (.inr (.inr ⟨c1,c2,c3⟩)))
   by_cases he:(aN k x (n+und t.op i) s sp st).2.1=0
   ·have hiv:=hiv he
    refine .inr ⟨((aN k x (n+und t.op i) s sp st).1,l++[(aN k x (n+und t.op i) s sp st).2.2]),?_,⟨Int.le_trans q1 hiv.lo,hiv.hi,by have:=hiv.lo; simp only; omega,by simp; omega⟩,fun y hy=>?_⟩
    ·rw [aF]
     clear IH hc hiv
     refine hund _ fun u hu hcs=>?_
     rw [hu] at he hcc hw1 ⊢
     rcases hcs with ⟨c1,c2⟩|⟨c1,c2,c3⟩|⟨c1,c2,c3⟩|⟨c1,c2,c3⟩
     ·rw [c2] at he hcc hw1 ⊢
      simp [bu,e1,e3,hx,hcc,c1,he,hw,hw1,hl1,tk,aa,aD,hpl,hpl1,aj,hB,-getElem?_pos,List.getElem?_cons_zero,List.getElem?_cons_succ,List.getElem?_nil,ak,aw,aq,ax,ay,ag,af,take_set,ae]
     ·subst c2
      rw [c3] at he hcc hw1 ⊢
      have e1:(1:Int)<t.args.length:=by omega
      have hw:IntKind.i64.wrap 2=2:=ai _ (by omega) (by omega)
      simp [bu,e1,e3,hx,hcc,c1,he,hw,hw1,hl1,tk,aa,aD,hpl,hpl1,aj,hB,-getElem?_pos,List.getElem?_cons_zero,List.getElem?_cons_succ,List.getElem?_nil,ak,aw,aq,ax,ay,ag,af,take_set,ae]
     ·rw [c3] at he hcc hw1 ⊢
      simp only [Int.add_zero] at he hcc hw1 ⊢
      simp [bu,e1,e3,hx,hcc,c1,c2,he,hw,hw1,hl1,tk,aa,aD,hpl,hpl1,aj,hB,-getElem?_pos,List.getElem?_cons_zero,List.getElem?_cons_succ,List.getElem?_nil,ak,aw,aq,ax,ay,ag,af,take_set,ae]
     ·rw [c3] at he hcc hw1 ⊢
      simp only [Int.add_zero] at he hcc hw1 ⊢
      simp [bu,e1,e3,hx,hcc,c1,c2,he,hw,hw1,hl1,tk,aa,aD,hpl,hpl1,aj,hB,-getElem?_pos,List.getElem?_cons_zero,List.getElem?_cons_succ,List.getElem?_nil,ak,aw,aq,ax,ay,ag,af,take_set,ae]
    ·by_cases hr:(dk (aN k) t.op n s sp r (i+1) (aN k x (n+und t.op i) s sp st).1).2.1=0
     ·simpa [dk,he,hr] using hy
     ·simpa [dk,he,hr] using hy
   ·have hq:(dk (aN k) t.op n s sp (x::r) i st)=((aN k x (n+und t.op i) s sp st).1,(aN k x (n+und t.op i) s sp st).2.1,[]):=by simp [dk,he]
    refine .inl ⟨uH σ p t s sp (aN k x (n+und t.op i) s sp st).1 (aN k x (n+und t.op i) s sp st).2.1 l,?_,by simp [uH],by simp only [hq,if_neg he]; exact ⟨l,rfl⟩⟩
    rw [aF]
    clear IH hc hiv hq
    refine hund _ fun u hu hcs=>?_
    rw [hu] at he hcc hw1 ⊢
    rcases hcs with ⟨c1,c2⟩|⟨c1,c2,c3⟩|⟨c1,c2,c3⟩|⟨c1,c2,c3⟩
    ·rw [c2] at he hcc hw1 ⊢
     simp [bu,uH,e1,e3,hx,hcc,c1,he,hw,hw1,hl1,tk,aa,aD,hpl,hpl1,aj,hB,-getElem?_pos,List.getElem?_cons_zero,List.getElem?_cons_succ,List.getElem?_nil,ak,aw,aq,ax,ay,ag,af,take_set,ae]
    ·subst c2
     rw [c3] at he hcc hw1 ⊢
     have e1:(1:Int)<t.args.length:=by omega
     have hw:IntKind.i64.wrap 2=2:=ai _ (by omega) (by omega)
     simp [bu,uH,e1,e3,hx,hcc,c1,he,hw,hw1,hl1,tk,aa,aD,hpl,hpl1,aj,hB,-getElem?_pos,List.getElem?_cons_zero,List.getElem?_cons_succ,List.getElem?_nil,ak,aw,aq,ax,ay,ag,af,take_set,ae]
    ·rw [c3] at he hcc hw1 ⊢
     simp only [Int.add_zero] at he hcc hw1 ⊢
     simp [bu,uH,e1,e3,hx,hcc,c1,c2,he,hw,hw1,hl1,tk,aa,aD,hpl,hpl1,aj,hB,-getElem?_pos,List.getElem?_cons_zero,List.getElem?_cons_succ,List.getElem?_nil,ak,aw,aq,ax,ay,ag,af,take_set,ae]
    ·rw [c3] at he hcc hw1 ⊢
     simp only [Int.add_zero] at he hcc hw1 ⊢
     simp [bu,uH,e1,e3,hx,hcc,c1,c2,he,hw,hw1,hl1,tk,aa,aD,hpl,hpl1,aj,hB,-getElem?_pos,List.getElem?_cons_zero,List.getElem?_cons_succ,List.getElem?_nil,ak,aw,aq,ax,ay,ag,af,take_set,ae]) 0 (st+1,[]) (by omega) ⟨by simp; omega,by simp; omega,by simp; omega,by simp⟩
 obtain ⟨y,hy,hq⟩:=hlo
 simp only [List.drop_zero,Int.natCast_zero] at hq
 have hiv:=Ch (jg k) t.op n s sp d n0 nd hs hp hsp t.args 0 (st+1) ht.sub (fun x hx=>cR hfd hx) (by omega) (by omega)
 simp only [fK,uB] at hy hq
 by_cases he:(dk (aN k) t.op n s sp t.args 0 (st+1)).2.1=0
 ·obtain ⟨g1',g2,g3,g4⟩:=hiv he
  rw [if_pos he] at hq
  subst hq
  generalize hA:dk (aN k) t.op n s sp t.args 0 (st+1)=A at *
  simp at hy
  simp only [he,ne_eq,not_true,if_false]
  have hll:A.2.2.length≤4000:=by rw [g4]; have:=eG t.args; have:=en t; omega
  have hwh:∀ n',I64 n'→∀ (bars:List Nat) (o:Nat) (σ:Sto),RR TT HH bars eL [.agg [.i t.op,.i t.hd,.i n',.ow o A.2.2.length (ab A.2.2)]] σ=some (.ret (if (Tm.mk t.op t.hd n' A.2.2).proper then .tup [(Tm.mk t.op t.hd n' A.2.2).enc,.i 0] else .tup [tz.enc,.i 5]),σ):=fun n' hn' bars o σ=>by
   have hh:=ht.here
   have hsp:=kI (Tm.mk t.op t.hd n' A.2.2) ⟨⟨hh.1,hh.2.1,hn',by simp only [Tm.args_mk]; rw [g4]; exact hh.2.2.2⟩,fun x hx=>(g3 x hx).1⟩
   refine kH ?_ (by simp) (by simp) (by simp) bars σ
   rw [← hsp]
   simp [Tm.enc]
  by_cases v4:t.op=4
  ·by_cases v1:t.hd=1
   ·rcases Int.lt_trichotomy t.n n with v|v|v
    ·have v2:¬ t.n=n:=by omega
     have v3:¬ n<t.n:=by omega
     have hk1:=hwh t.n ht.here.2.2.1
     simp only [v4,v1,v2,v3,and_false,if_false,pD] at hk1 ⊢
     rw [v4,v1] at hy
     by_cases hq:(Tm.mk 4 1 t.n A.2.2).proper=true
     ·simp only [hq,if_true] at hk1 ⊢
      simp [aZ,px,he,e3,g1,hw,hy,hk1,v4,v1,v2,v3,v,hσ,hpl,hpl1,eI,aa,aD,tk0,aj,hB,-getElem?_pos,List.getElem?_cons_zero,List.getElem?_cons_succ,List.getElem?_nil,ak,aw,aq,ax,ay,ag,af,take_set,ae]
     ·simp only [hq,if_false] at hk1 ⊢
      simp [aZ,px,he,e3,g1,hw,hy,hk1,v4,v1,v2,v3,v,hσ,hpl,hpl1,eI,aa,aD,tk0,aj,hB,-getElem?_pos,List.getElem?_cons_zero,List.getElem?_cons_succ,List.getElem?_nil,ak,aw,aq,ax,ay,ag,af,take_set,ae]
      try simp [tz,Tm.enc]
    ·have hra:=au (xg s hs n 1 (by omega) (by omega) (ar hp) (by omega) (by have:=aI hp; omega)) (by simp) (by simp)
     have hmo:=o0 s hs n 0 1 (by omega) (by omega) (ar hp)
     have hmv:=au (kI (s.moved n 0) hmo) (by simp) (by simp)
     have v3:¬ n<n:=by omega
     simp only [v4,v1,v,and_self,if_true]
     rw [v4,v1,v] at hy
     by_cases hq:(s.moved n 0).proper=true
     ·simp only [hq,if_true] at hmv ⊢
      have hap:∀ bars ext,(∀ y∈bars,y≤σ.length+ext.length)→RR TT HH bars cM [.ptr p 0,(s.moved n 0).enc,.ow (σ.length+5) A.2.2.length (ab A.2.2),sp.enc] (σ.set p (.var [.i A.1])++ext)=some (.ret (.tup [(fH (aN k) A.2.2 (s.moved n 0) sp A.1).2.2.enc,.i (fH (aN k) A.2.2 (s.moved n 0) sp A.1).2.1]),σ.set p (.var [.i (fH (aN k) A.2.2 (s.moved n 0) sp A.1).1])++ext):=fun bars ext gb=>by
       rw [aX (by simp) (by simp),Cp IH A.2.2 (s.moved n 0) sp A.1 p bars _ _ g3 hll hmo hq hsp (by omega) g2 (by omega) (by simp [hpl,-getElem?_pos,List.getElem?_cons_zero,List.getElem?_cons_succ,List.getElem?_nil,ak,aw,aq,ax,ay,ag,af,take_set,ae]) rfl (by simpa using gb)]
       simp [px,hpl,-getElem?_pos,List.getElem?_cons_zero,List.getElem?_cons_succ,List.getElem?_nil,ak,aw,aq,ax,ay,ag,af,take_set,ae]
      have hap:=fun (e0 e1 e2 e3 e4 e5 e6:Ob)=>hap (σ.length::bars) [e0,e1,e2,e3,e4,e5,e6] (fun y hy=>by
       simp only [List.mem_cons] at hy
       simp only [List.length_cons,List.length_nil]
       rcases hy with rfl|hy
       ·omega
       ·have:=hbr y hy; omega)
      simp [aZ,px,he,e3,g1,hw,hy,hra,hmv,hap,v4,v1,v,v3,hσ,hpl,hpl1,aa,aD,tk0,aj,hB,-getElem?_pos,List.getElem?_cons_zero,List.getElem?_cons_succ,List.getElem?_nil,ak,aw,aq,ax,ay,ag,af,take_set,ae]
     ·simp only [hq,if_false] at hmv ⊢
      simp [aZ,px,he,e3,g1,hw,hy,hra,hmv,v4,v1,v,v3,hσ,hpl,hpl1,aa,aD,tk0,aj,hB,-getElem?_pos,List.getElem?_cons_zero,List.getElem?_cons_succ,List.getElem?_nil,ak,aw,aq,ax,ay,ag,af,take_set,ae]
      try simp [tz,Tm.enc]
    ·have v2:¬ t.n=n:=by omega
     have v3:¬ t.n<n:=by omega
     have hwn:IntKind.i64.wrap (t.n - 1)=t.n - 1:=ai _ (by omega) (by have:=ht.here.2.2.1.2; omega)
     have hk1:=hwh (t.n - 1) (by have:=ht.here.2.2.1; unfold I64 at *; omega)
     simp only [v4,v1,v2,v,and_self,and_false,if_true,if_false,pD] at hk1 ⊢
     rw [v4,v1] at hy
     by_cases hq:(Tm.mk 4 1 (t.n - 1) A.2.2).proper=true
     ·simp only [hq,if_true] at hk1 ⊢
      simp [aZ,px,he,e3,g1,hw,hwn,hy,hk1,v4,v1,v2,v3,v,hσ,hpl,hpl1,eI,aa,aD,tk0,aj,hB,-getElem?_pos,List.getElem?_cons_zero,List.getElem?_cons_succ,List.getElem?_nil,ak,aw,aq,ax,ay,ag,af,take_set,ae]
     ·simp only [hq,if_false] at hk1 ⊢
      simp [aZ,px,he,e3,g1,hw,hwn,hy,hk1,v4,v1,v2,v3,v,hσ,hpl,hpl1,eI,aa,aD,tk0,aj,hB,-getElem?_pos,List.getElem?_cons_zero,List.getElem?_cons_succ,List.getElem?_nil,ak,aw,aq,ax,ay,ag,af,take_set,ae]
      try simp [tz,Tm.enc]
   ·have hk1:=hwh t.n ht.here.2.2.1
    simp only [v4,v1,false_and,and_false,if_false,pD] at hk1 ⊢
    rw [v4] at hy
    by_cases hq:(Tm.mk 4 t.hd t.n A.2.2).proper=true
    ·simp only [hq,if_true] at hk1 ⊢
     simp [aZ,px,he,e3,g1,hw,hy,hk1,v4,v1,hσ,hpl,hpl1,eI,aa,aD,tk0,aj,hB,-getElem?_pos,List.getElem?_cons_zero,List.getElem?_cons_succ,List.getElem?_nil,ak,aw,aq,ax,ay,ag,af,take_set,ae]
    ·simp only [hq,if_false] at hk1 ⊢
     simp [aZ,px,he,e3,g1,hw,hy,hk1,v4,v1,hσ,hpl,hpl1,eI,aa,aD,tk0,aj,hB,-getElem?_pos,List.getElem?_cons_zero,List.getElem?_cons_succ,List.getElem?_nil,ak,aw,aq,ax,ay,ag,af,take_set,ae]
     try simp [tz,Tm.enc]
  ·have hk1:=hwh t.n ht.here.2.2.1
   simp only [v4,false_and,if_false,pD] at hk1 ⊢
   by_cases hq:(Tm.mk t.op t.hd t.n A.2.2).proper=true
   ·simp only [hq,if_true] at hk1 ⊢
    simp [aZ,px,he,e3,g1,hw,hy,hk1,v4,hσ,hpl,hpl1,eI,aa,aD,tk0,aj,hB,-getElem?_pos,List.getElem?_cons_zero,List.getElem?_cons_succ,List.getElem?_nil,ak,aw,aq,ax,ay,ag,af,take_set,ae]
   ·simp only [hq,if_false] at hk1 ⊢
    simp [aZ,px,he,e3,g1,hw,hy,hk1,v4,hσ,hpl,hpl1,eI,aa,aD,tk0,aj,hB,-getElem?_pos,List.getElem?_cons_zero,List.getElem?_cons_succ,List.getElem?_nil,ak,aw,aq,ax,ay,ag,af,take_set,ae]
    try simp [tz,Tm.enc]
 ·rw [if_neg he] at hq
  obtain ⟨l,rfl⟩:=hq
  simp [uH] at hy
  simp [aZ,px,he,e3,g1,hw,hy,hσ,hpl,hpl1,aa,aD,tk0,aj,hB,-getElem?_pos,List.getElem?_cons_zero,List.getElem?_cons_succ,List.getElem?_nil,ak,aw,aq,ax,ay,ag,af,take_set,ae]
  try simp [tz,Tm.enc]
end Go.Ev

namespace Go.Ev
theorem Cr:∀ (k:Nat) (t:Tm) (d:Int),t.formed d=true→∀ x∈Tm.doms k t,x.nodes+1≤t.nodes∧x.formed (d+1)=true∧(t.ok→x.ok):=by
 intro k
 induction k with
 | zero=>intro t d _ x hx; simp [Tm.doms] at hx
 | succ k ih =>
  intro t d hf x hx
  by_cases h2:t.op=2
  ·obtain ⟨a,b,hab,ha,hb⟩:=cz hf h2
   rw [u5 h2 hab] at hx
   have na:=dJ (t:=t) (x:=a) (by rw [hab]; simp)
   have nb:=dJ (t:=t) (x:=b) (by rw [hab]; simp)
   rcases List.mem_cons.1 hx with rfl|hx
   ·exact ⟨na,ha,fun h=>h.sub _ (by rw [hab]; simp)⟩
   ·obtain ⟨g1,g2,g3⟩:=ih b (d+1) hb x hx
    exact ⟨by omega,jW x _ _ (by omega) g2,fun h=>g3 (h.sub b (by rw [hab]; simp))⟩
  ·rw [w5 h2] at hx; cases hx
@[simp] theorem Uc (l:List Sp) (s:Sp):ab l++[[PV.sl false (ab s.args),PV.i s.con]]=ab (l++[s]):=by rw [iI]; simp [aB]
def spz:Sp:=.mk [] 0
def PL (o:Option Sp):PV:=match o with
 | some s=>.tup [s.enc,.i 0]
 | none=>.tup [spz.enc,.i 22]
@[simp] theorem Sz (s:Sp):PL (some s)=.tup [s.enc,.i 0]:=rfl
@[simp] theorem SA:PL none=.tup [spz.enc,.i 22]:=rfl
theorem yH:∀ (n:Nat) (t:Tm),t.nodes≤n→t.ok→t.formed 1=true→t.nodes≤4000→az TT HH [] kZ [t.enc] []=some (.ret (PL t.smp),[]):=by
 intro n
 induction n with
 | zero=>intro t h; have:=yo t; omega
 | succ n ih =>
  intro t hn hok hf h4
  rw [BV,GY 40 t 1 hf (by omega)]
  have hd:=au (dX t hf) (by simp) (by simp)
  have hsub:=Cr 40 t 1 hf
  have hdl:=lh 40 t
  generalize Tm.core 40 t=c at *
  generalize Tm.doms 40 t=D at *
  have hlo:=gJ (T:=TT) (H:=HH) (b:=[0]) (A:=iw) D
   (fun i (l:List Sp)=>([(2,.ptr 1 0),(6,.ptr 4 0),(28,.sl false (ab D)),(29,.i D.length),(30,.i i)],[.var [.i t.op,.i t.hd,.i t.n,.sl false (ab t.args)],.var [.ow 2 0 [],.i 0],.tok 2 0,.var [.i c.op,.i c.hd,.i c.n,.sl false (ab c.args)],.var [.ow 5 l.length (ab l),.i c.n],.tok 2 l.length]))
   (fun r i l y=>match sw r with
    | some q=>y=(.exit 0,[(2,.ptr 1 0),(6,.ptr 4 0)],[.var [.i t.op,.i t.hd,.i t.n,.sl false (ab t.args)],.var [.ow 2 0 [],.i 0],.tok 2 0,.var [.i c.op,.i c.hd,.i c.n,.sl false (ab c.args)],.var [.ow 5 (l++q).length (ab (l++q)),.i c.n],.tok 2 (l++q).length])
    | none=>∃ l:List Sp,y=(.ret,[(2,.ptr 1 0),(3,.i 22)],[.var [.i t.op,.i t.hd,.i t.n,.sl false (ab t.args)],.var [.sl true [],.i 0],.tok 2 0,.var [.i c.op,.i c.hd,.i c.n,.sl false (ab c.args)],.var [.ow 5 l.length (ab l),.i c.n],.tok 2 l.length]))
   (fun i l=>l.length=i)
   (fun l hl=>by
    rw [aF]
    simp [iw,sw])
   (fun i x r l hx hm hd hi hl=>by
    have e1:(i:Int)<D.length:=by omega
    have hw:IntKind.i64.wrap ((i:Int)+1)=(i:Int)+1:=ai _ (by omega) (by omega)
    obtain ⟨g1,g2,g3⟩:=hsub x hm
    have hc:=au (ih x (by omega) (g3 hok) (jW x _ _ (by omega) g2) (by omega)) (by simp) (by simp)
    have hl1:l.length+1≤LIM:=by unfold LIM; omega
    have hl2:i+1≤LIM:=by unfold LIM; omega
    cases hs:x.smp with
    | none =>
     rw [hs] at hc
     refine .inl ⟨(.ret,[(2,.ptr 1 0),(3,.i 22)],[.var [.i t.op,.i t.hd,.i t.n,.sl false (ab t.args)],.var [.sl true [],.i 0],.tok 2 0,.var [.i c.op,.i c.hd,.i c.n,.sl false (ab c.args)],.var [.ow 5 l.length (ab l),.i c.n],.tok 2 l.length]),?_,by simp,?_⟩
     ·rw [aF]
      simp [iw,e1,hx,hc,hw,aa,aD,aj]
     ·simp only [sw,hs,Option.bind_none]
      exact ⟨l,rfl⟩
    | some s =>
     rw [hs] at hc
     refine .inr ⟨l++[s],?_,by simp [hl],fun y hy=>?_⟩
     ·rw [aF]
      simp [iw,e1,hx,hc,hw,hl1,hl2,aa,aD,aj]
     ·simp only [sw,hs,Option.bind_some]
      cases hr:sw r with
      | none=>rw [hr] at hy; exact hy
      | some q=>rw [hr] at hy; simpa using hy) 0 [] (by omega) rfl
  obtain ⟨y,hy,hq⟩:=hlo
  simp only [List.drop_zero] at hq
  by_cases h4:c.op=4∧c.hd=2
  ·rw [if_pos h4]
   obtain ⟨h4,h5⟩:=h4
   have e3:D.length<9223372036854775808:=by omega
   cases hs:sw D with
   | none =>
    simp only [hs] at hq
    obtain ⟨l,rfl⟩:=hq
    simp [h4,h5] at hy
    simp [iz,hd,hy,h4,h5,e3,aa,aj]
    simp [spz,Sp.enc]
   | some q =>
    simp only [hs] at hq
    subst hq
    simp [h4,h5] at hy
    simp [iz,hd,hy,h4,h5,e3,aa,aj,Sp.enc]
  ·rw [if_neg h4]
   clear hy
   by_cases h5:c.op=4
   ·have h6:¬ c.hd=2:=fun h=>h4 ⟨h5,h⟩
    simp [iz,hd,h5,h6,aa,aj]
    simp [spz,Sp.enc]
   ·simp [iz,hd,h5,aa,aj]
    simp [spz,Sp.enc]
theorem kJ (t:Tm) (h:t.ok) (hp:t.proper=true):az TT HH [] fy [t.enc] []=some (.ret (PL t.smp),[]):=by
 rw [BI]
 have h1:=au (bO t h) (by simp) (by simp)
 have h2:=au (yH _ t (Nat.le_refl _) h (ar hp) (by have:=aI hp; omega)) (by simp) (by simp)
 rw [hp] at h1
 cases hs:t.smp with
 | none =>
  rw [hs] at h2
  simp [ni,h1,h2,aa,aD]
 | some s =>
  rw [hs] at h2
  simp [ni,h1,h2,aa,aD]
def R1 (o:Option Sp):PV:=match o with
 | some s=>.tup [s.enc,.b true]
 | none=>.tup [spz.enc,.b false]
@[simp] theorem SB (s:Sp):R1 (some s)=.tup [s.enc,.b true]:=rfl
@[simp] theorem SC:R1 none=.tup [spz.enc,.b false]:=rfl
theorem nB:∀ t:Tm,t.ok→∀ d:Int,t.formed d=true→t.nodes≤4000→az TT HH [] dR [t.enc] []=some (.ret (R1 t.smp),[]) :=
 Tm.ind fun t ih hok d hf hn=>by
  rw [zH]
  by_cases h2:t.op=2
  ·obtain ⟨a,b,hab,ha,hb⟩:=cz hf h2
   have na:=dJ (t:=t) (x:=a) (by rw [hab]; simp)
   have nb:=dJ (t:=t) (x:=b) (by rw [hab]; simp)
   have hca:=au (ih a (by rw [hab]; simp) (hok.sub a (by rw [hab]; simp)) (d+1) ha (by omega)) (by simp) (by simp)
   have hcb:=au (ih b (by rw [hab]; simp) (hok.sub b (by rw [hab]; simp)) (d+1) hb (by omega)) (by simp) (by simp)
   rw [IE h2 hab]
   have l1:1≤LIM:=by decide
   cases hx:a.smp with
   | none =>
    rw [hx] at hca
    cases hy:b.smp with
    | none =>
     rw [hy] at hcb
     simp [c9,h2,hab,hca,hcb,aa,aD,aj,aB,spz]
     try simp [spz,Sp.enc]
    | some y =>
     rw [hy] at hcb
     simp [c9,h2,hab,hca,hcb,aa,aD,aj,aB,spz]
     try simp [spz,Sp.enc]
   | some x =>
    rw [hx] at hca
    cases hy:b.smp with
    | none =>
     rw [hy] at hcb
     simp [c9,h2,hab,hca,hcb,aa,aD,aj,aB,spz]
     try simp [spz,Sp.enc]
    | some y =>
     rw [hy] at hcb
     have hyl:=(Ee b (d+1) hb (by omega) y hy).2.2.1
     have l2:1+y.args.length≤LIM:=by unfold LIM; omega
     obtain ⟨ya,yc⟩:=y
     cases ya with
     | nil =>
      simp [c9,h2,hab,hca,hcb,l1,aa,aD,aj,aB,spz]
      simp [Sp.enc,aB]
     | cons y1 y2 =>
      simp at l2
      have hal:bV 2 ([PV.sl false (ab y1.args),PV.i y1.con]::ab y2)=true:=by have:=KG (y1::y2); simpa [aB] using this
      simp [c9,h2,hab,hca,hcb,l1,l2,hal,aa,aD,aj,aB,spz]
      simp [Sp.enc,aB]
  ·by_cases h4:t.op=4∧t.hd=2
   ·rw [Fm h4.1 h4.2]
    simp [c9,h4.1,h4.2,aj]
    simp [Sp.enc]
   ·rw [IG h2 h4]
    by_cases h5:t.op=4
    ·have h6:¬ t.hd=2:=fun h=>h4 ⟨h5,h⟩
     simp [c9,h5,h6,aj]
     simp [spz,Sp.enc]
    ·simp [c9,h2,h5,aj]
     simp [spz,Sp.enc]
end Go.Ev

namespace Go.Ev
theorem JK:∀ k,AG k
 | 0=>fun t n s sp st d p bars σ ht hfd hnn n0 nd hs hp hsp h0 h1 hk hσ hbr=>by
  rw [pC]
  have hpl:p<σ.length:=bE hσ
  have hpl1:∀ j,p<σ.length+j:=fun j=>by omega
  have g1:20000<st+1:=by omega
  have hw:IntKind.i64.wrap (st+1)=st+1:=ai _ (by omega) (by omega)
  have hfail:=au (gx 5) (by simp) (by simp)
  have tk0:∀ y (l:Sto),(σ.set p y++l).take σ.length=σ.set p y:=fun y l=>take_set y l
  have hB:∀ j x,aj bars (σ.length+j) x=true:=fun j x=>dq x fun b hb=>by have:=hbr b hb; omega
  simp [aO,r9,aN,g1,hw,hfail,hσ,hpl,hpl1,aa,aD,gc,tk0,aj,hB,-getElem?_pos,List.getElem?_cons_zero,List.getElem?_cons_succ,List.getElem?_nil,ak,aw,aq,ax,ay,ag,af,take_set,ae]
 | k+1=>yF (JK k)
theorem JL:∀ k,AH k
 | 0=>fun t n s sp st d p bars σ ht hfd hnn n0 nd hs hp hsp h0 h1 hk hσ hbr=>by
  rw [qH]
  have hpl:p<σ.length:=bE hσ
  have hpl1:∀ j,p<σ.length+j:=fun j=>by omega
  have g1:20000<st+1:=by omega
  have hw:IntKind.i64.wrap (st+1)=st+1:=ai _ (by omega) (by omega)
  have tk0:∀ y (l:Sto),(σ.set p y++l).take σ.length=σ.set p y:=fun y l=>take_set y l
  have hB:∀ j x,aj bars (σ.length+j) x=true:=fun j x=>dq x fun b hb=>by have:=hbr b hb; omega
  simp [aZ,px,aN,g1,hw,hσ,hpl,hpl1,aa,aD,tk0,aj,hB,-getElem?_pos,List.getElem?_cons_zero,List.getElem?_cons_succ,List.getElem?_nil,ak,aw,aq,ax,ay,ag,af,take_set,ae]
  simp [tz,Tm.enc]
 | k+1=>Cq (JL k)
theorem PM {S:SF}:∀ (l:List Tm) (f:Tm) (sp:Sp) (st:Int),(fH S l f sp st).2.1≠0→(fH S l f sp st).2.2=tz:=by
 intro l
 induction l with
 | nil=>intro f sp st h; unfold fH at h ⊢; split at h<;>simp_all
 | cons x r ih =>
  intro f sp st h
  unfold fH at h ⊢
  by_cases h3:f.op=3
  ·simp only [h3,ne_eq,not_true,if_false] at h ⊢
   split at h
   ·rename_i s q b hs hb
    by_cases h1:(S b 0 x s st).2.1=0
    ·simp only [h1,not_true,if_false] at h ⊢
     exact ih _ _ _ h
    ·simp [h1]
   ·rfl
  ·simp [h3]
theorem PN:∀ (k:Nat) (t:Tm) (n:Int) (s:Tm) (sp:Sp) (st:Int),(aN k t n s sp st).2.1≠0→(aN k t n s sp st).2.2=tz
 | 0,t,n,s,sp,st,h=>rfl
 | k+1,t,n,s,sp,st,h=>by
  unfold aN at h ⊢
  by_cases h1:20000<st+1
  ·rw [if_pos h1]
  rw [if_neg h1] at h ⊢
  by_cases h2:(dk (aN k) t.op n s sp t.args 0 (st+1)).2.1=0
  ·simp only [h2,ne_eq,not_true,if_false] at h ⊢
   by_cases h3:t.op=4∧t.hd=1∧t.n=n
   ·rw [if_pos h3] at h ⊢
    by_cases h4:(s.moved n 0).proper=true
    ·rw [if_pos h4] at h ⊢
     exact PM _ _ _ _ h
    ·rw [if_neg h4]
   ·rw [if_neg h3] at h ⊢
    have key:∀ (a:Int) (z:Tm),(pD a z).2.1≠0→(pD a z).2.2=tz:=fun a z h=>by
     unfold pD at h ⊢
     by_cases hz:z.proper=true
     ·simp [hz] at h
     ·simp [hz]
    exact key _ _ h
  ·simp [h2]
theorem z7 (c x:Tm) (hc:c.ok) (hp:c.proper=true) (hx:x.ok) (hxp:x.proper=true) (p:Nat) (bars:List Nat) (σ:Sto) (hσ:σ[p]? = some (.var [.i 0])) (hbr:∀ y∈bars,y≤σ.length) :
  ∃ n:Int,az TT HH bars fM [.ptr p 0,c.enc,x.enc] σ=some (.ret (.tup [(cu c x).2.enc,.i (cu c x).1]),σ.set p (.var [.i n])):=by
 rw [vj]
 have hpl:p<σ.length:=bE hσ
 have hpl1:∀ j,p<σ.length+j:=fun j=>by omega
 have hS0:σ.set p (.var [.i 0])=σ:=wL hσ
 have tk0:∀ y (l:Sto),(σ.set p y++l).take σ.length=σ.set p y:=fun y l=>take_set y l
 have tk1:∀ (l:Sto),(σ++l).take σ.length=σ:=fun l=>List.take_left
 have hB:∀ j x,aj bars (σ.length+j) x=true:=fun j x=>dq x fun b hb=>by have:=hbr b hb; omega
 have hf:=ar hp
 have hn:=aI hp
 unfold cu
 by_cases h2:c.op=2
 ·obtain ⟨a,b,hab,ha,hb⟩:=cz hf h2
  have na:=dJ (t:=c) (x:=a) (by rw [hab]; simp)
  have nb:=dJ (t:=c) (x:=b) (by rw [hab]; simp)
  have hsm:=au (nB a (hc.sub a (by rw [hab]; simp)) 2 ha (by omega)) (by simp) (by simp)
  simp only [h2,hab,ne_eq,not_true,if_false]
  cases hs:a.smp with
  | none =>
   rw [hs] at hsm
   refine ⟨0,?_⟩
   simp [d0,h2,hab,hsm,hσ,hpl,hpl1,hS0,aa,aD,tk1,aj,hB,aB,-getElem?_pos,List.getElem?_cons_zero,List.getElem?_cons_succ,List.getElem?_nil,ak,aw,aq,ax,ay,ag,af,take_set,ae]
   simp [tz,Tm.enc]
  | some s =>
   rw [hs] at hsm
   obtain ⟨g1,g2,g3⟩:=iG (aR hp (x:=a) (by rw [hab]; simp)) hs
   have hsl:=au (n9 s g1 g3) (by simp) (by simp)
   have hput:∀ e0 e1 e2 e3,RR TT HH (σ.length::bars) cT [.ptr p 0,b.enc,.i 0,x.enc,s.enc] (σ++[e0,e1,e2,e3])=some (.ret (.tup [(aN 20000 b 0 x s 0).2.2.enc,.i (aN 20000 b 0 x s 0).2.1]),σ.set p (.var [.i (aN 20000 b 0 x s 0).1])++[e0,e1,e2,e3]):=fun e0 e1 e2 e3=>by
    rw [aX (by simp) (by simp),JL 20000 b 0 x s 0 2 p _ _ (hc.sub b (by rw [hab]; simp)) hb (by omega) (by omega) (by omega) hx hxp g1 (by omega) (by omega) (by omega) (by simp [hpl,hσ,-getElem?_pos,List.getElem?_cons_zero,List.getElem?_cons_succ,List.getElem?_nil,ak,aw,aq,ax,ay,ag,af,take_set,ae]) (fun y hy=>by
     simp only [List.mem_cons] at hy
     simp only [List.length_append,List.length_cons,List.length_nil]
     rcases hy with rfl|hy
     ·omega
     ·have:=hbr y hy; omega)]
    simp [px,hpl,-getElem?_pos,List.getElem?_cons_zero,List.getElem?_cons_succ,List.getElem?_nil,ak,aw,aq,ax,ay,ag,af,take_set,ae]
   refine ⟨(aN 20000 b 0 x s 0).1,?_⟩
   have htz:∀ k,(aN k b 0 x s 0).2.1≠0→(aN k b 0 x s 0).2.2=tz:=fun k h=>PN k b 0 x s 0 h
   by_cases he:(aN 20000 b 0 x s 0).2.1=0
   ·simp only [he,if_true]
    rw [he] at hput
    simp [d0,h2,hab,hsm,hsl,hput,hσ,hpl,hpl1,hS0,aa,aD,tk0,tk1,aj,hB,aB,-getElem?_pos,List.getElem?_cons_zero,List.getElem?_cons_succ,List.getElem?_nil,ak,aw,aq,ax,ay,ag,af,take_set,ae]
   ·simp only [he,if_false]
    rw [htz 20000 he] at hput
    simp [d0,h2,hab,hsm,hsl,hput,hσ,hpl,hpl1,hS0,aa,aD,tk0,tk1,aj,hB,aB,-getElem?_pos,List.getElem?_cons_zero,List.getElem?_cons_succ,List.getElem?_nil,ak,aw,aq,ax,ay,ag,af,take_set,ae]
 ·refine ⟨0,?_⟩
  simp [d0,h2,hσ,hpl,hpl1,hS0,aa,aD,tk1,aj,hB,-getElem?_pos,List.getElem?_cons_zero,List.getElem?_cons_succ,List.getElem?_nil,ak,aw,aq,ax,ay,ag,af,take_set,ae]
  simp [tz,Tm.enc]
theorem sE (c x:Tm) (h:(cu c x).1≠0):(cu c x).2=tz:=by
 unfold cu at h ⊢
 by_cases h2:c.op=2
 ·simp only [h2,ne_eq,not_true,if_false] at h ⊢
  split at h
  ·rename_i a b hab
   cases hs:a.smp with
   | none=>rfl
   | some s =>
    simp only [hs] at h ⊢
    split at h
    ·simp at h
    ·rename_i hq; simp [hq]
  ·rfl
 ·simp [h2]
theorem pE (c x:Tm) (hc:c.ok) (hp:c.proper=true) (hx:x.ok) (hxp:x.proper=true) (tt:Bool):az TT HH [] eq [c.enc,.sl tt (ab [x])] []=some (.ret (.tup [(cu c x).2.enc,.i (cu c x).1]),[]):=by
 rw [wP]
 have h1:=au (bN c hc) (by simp) (by simp)
 rw [hp] at h1
 have h2:=au (z6 [x] (fun y hy=>by simp at hy; subst hy; exact ⟨hx,hxp⟩) (by simp) false) (by simp) (by simp)
 have htz:(cu c x).1≠0→(cu c x).2=tz:=fun h=>sE c x h
 obtain ⟨n,hst⟩:=z7 c x hc hp hx hxp 2 [3,0] [.var (Enc.cells c),.var [.i 0,.i 0,.i 0,.sl true []],.var [.i 0]] rfl (by simp)
 have hst:RR TT HH [3,0] fM [.ptr 2 0,c.enc,x.enc] [.var (Enc.cells c),.var [.i 0,.i 0,.i 0,.sl true []],.var [.i 0]]=some (.ret (.tup [(cu c x).2.enc,.i (cu c x).1]),[.var (Enc.cells c),.var [.i 0,.i 0,.i 0,.sl true []],.var [.i n]]):=by
  rw [aX (by simp) (by simp),hst]; rfl
 simp only [fK] at hst
 have hw:IntKind.i64.wrap 1=1:=ai _ (by omega) (by omega)
 by_cases he:(cu c x).1=0
 ·have hlo:LO TT HH [0] cw ([(1,.sl false (ab [x])),(2,.ptr 0 0),(4,.ptr 1 0),(6,.ptr 2 0),(7,.i 0)],[.var [.i c.op,.i c.hd,.i c.n,.sl false (ab c.args)],.var [.i 0,.i 0,.i 0,.sl true []],.var [.i 0]]) =
    some (.exit 0,[(2,.ptr 0 0),(4,.ptr 1 0)],[.var (Enc.cells (cu c x).2),.var [.i 0,.i 0,.i 0,.sl true []],.var [.i n]]):=by
   rw [aP,aF]
   rw [he] at hst
   have h2nd:∀ (e:Env) (s:Sto),e=[(1,.sl false (ab [x])),(2,.ptr 0 0),(4,.ptr 1 0),(6,.ptr 2 0),(7,.i 1)]→s.length=3→LO TT HH [0] cw (e,s)=some (.exit 0,[(2,.ptr 0 0),(4,.ptr 1 0)],s):=fun e s he hs=>by
    subst he
    rw [aP,aF]
    have:s.take 3=s:=List.take_of_length_le (by omega)
    simp [cw,hs,this]
   generalize LO TT HH [0] cw=F at h2nd ⊢
   simp [cw,hst,hw,aa,aB,h2nd]
  simp [aB] at hlo h2
  simp [jy,h1,h2,hlo,he,aa,aB]
 ·have hlo:LO TT HH [0] cw ([(1,.sl false (ab [x])),(2,.ptr 0 0),(4,.ptr 1 0),(6,.ptr 2 0),(7,.i 0)],[.var [.i c.op,.i c.hd,.i c.n,.sl false (ab c.args)],.var [.i 0,.i 0,.i 0,.sl true []],.var [.i 0]]) =
    some (.ret,[(4,.ptr 1 0),(5,.i (cu c x).1)],[.var [.i c.op,.i c.hd,.i c.n,.sl false (ab c.args)],.var [.i 0,.i 0,.i 0,.sl true []],.var [.i n]]):=by
   rw [aP,aF]
   generalize LO TT HH [0] cw=F
   simp [cw,hst,he,hw,aa,aB]
  simp [aB] at hlo h2
  rw [htz he]
  simp [jy,h1,h2,hlo,he,aa,aB]
  try simp [tz,Tm.enc]
end Go.Ev

namespace Go.Ev
theorem KN (l:List Tm) (h:∀ x∈l,x.ok∧x.proper=true) (e1 e2:PV) (b1:below 0 e1=true) (b2:below 0 e2=true) (hl:l.length≤601) :
  LO TT HH [0] jc ([(1,e1),(2,e2),(12,.sl false (ab l)),(13,.i l.length),(14,.i 0)],[])=some (.exit 0,[(1,e1),(2,e2)],[]):=by
 have hlo:=be (T:=TT) (H:=HH) (b:=[0]) (A:=jc) l
  (fun i (_:Unit)=>([(1,e1),(2,e2),(12,.sl false (ab l)),(13,.i l.length),(14,.i i)],[]))
  (fun r i _=>(.exit 0,[(1,e1),(2,e2)],[]))
  (fun _ _=>True)
  (fun _ _=>by
   rw [aF]
   simp [jc,b1,b2])
  (fun i x r _ hx hm hd hi _=>by
   have e1:(i:Int)<l.length:=by omega
   have hw:IntKind.i64.wrap ((i:Int)+1)=(i:Int)+1:=ai _ (by omega) (by omega)
   have hc:=au (bO x (h x hm).1) (by simp) (by simp)
   rw [(h x hm).2] at hc
   refine .inr ⟨(),?_,trivial,rfl⟩
   rw [aF]
   simp [jc,e1,hx,hc,hw,aa,b1,b2]) 0 () (by omega) trivial
 simpa using hlo
theorem xj (f:PV) (l:List Sp) (hf:∃ g,f=.fn (.func g) []∧g<YB∧∀ x∈l,az TT HH [] g [x.enc] []=some (.ret (.b false),[])) (hl:l.length<9223372036854775808):az TT HH [] bq [.sl false (ab l),f] []=some (.ret (.i (-1)),[]):=by
 obtain ⟨g,rfl,hg,hx⟩:=hf
 rw [ek]
 have hlo:=be (T:=TT) (H:=HH) (b:=[0]) (A:=aH) l
  (fun i (_:Unit)=>([(0,.sl false (ab l)),(1,.fn (.func g) []),(7,.i l.length),(8,.i i)],[]))
  (fun r i _=>(.exit 0,[],[]))
  (fun _ _=>True)
  (fun _ _=>by
   rw [aF]
   simp [aH])
  (fun i x r _ hxi hm hd hi _=>by
   have e1:(i:Int)<l.length:=by omega
   have hw:IntKind.i64.wrap ((i:Int)+1)=(i:Int)+1:=ai _ (by omega) (by omega)
   have hc:=au (hx x hm) (by simp) hg
   refine .inr ⟨(),?_,trivial,rfl⟩
   rw [aF]
   simp [aH,e1,hxi,hc,hg,hw,aD]) 0 () (by omega) trivial
 simp at hlo
 simp [bS,hlo,hl]
theorem wg (f:PV) (l:List Int) (hf:∃ g,f=.fn (.func g) []∧g<YB∧∀ x∈l,az TT HH [] g [.i x] []=some (.ret (.b false),[])) (hl:l.length<9223372036854775808):az TT HH [] di [.sl false (ab l),f] []=some (.ret (.i (-1)),[]):=by
 obtain ⟨g,rfl,hg,hx⟩:=hf
 rw [nW]
 have hlo:=be (T:=TT) (H:=HH) (b:=[0]) (A:=cW) l
  (fun i (_:Unit)=>([(0,.sl false (ab l)),(1,.fn (.func g) []),(7,.i l.length),(8,.i i)],[]))
  (fun r i _=>(.exit 0,[],[]))
  (fun _ _=>True)
  (fun _ _=>by
   rw [aF]
   simp [cW])
  (fun i x r _ hxi hm hd hi _=>by
   have e1:(i:Int)<l.length:=by omega
   have hw:IntKind.i64.wrap ((i:Int)+1)=(i:Int)+1:=ai _ (by omega) (by omega)
   have hc:=au (hx x hm) (by simp) hg
   refine .inr ⟨(),?_,trivial,rfl⟩
   rw [aF]
   simp [cW,e1,hxi,hc,hg,hw]) 0 () (by omega) trivial
 simp at hlo
 simp [eC,hlo,hl]
theorem xk (s:Sp) (h:s.ok) (hs:s.small=true):az TT HH [] hZ [s.enc] []=some (.ret (.b false),[]):=by
 rw [zN]
 have h1:=au (kF s h) (by simp) (by simp)
 rw [hs] at h1
 simp [pj,h1,aD]
theorem xl (n:Int) (h0:0≤n) (h1:n≤9999):az TT HH [] ib [.i n] []=some (.ret (.b false),[]):=by
 rw [zO]
 have g1:¬ n<0:=by omega
 have g2:¬ 9999<n:=by omega
 simp [pk,g1,g2]
theorem Ud (l:List Sp) (h:∀ s∈l,s.ok∧s.small=true) (hl:l.length≤600) (tt:Bool):az TT HH [] aQ [.sl tt (ab l),.fn (.func hZ) []] []=some (.ret (.b false),[]):=by
 rw [dN]
 have h1:=au (xj (.fn (.func hZ) []) l ⟨_,rfl,by simp,fun x hx=>xk x (h x hx).1 (h x hx).2⟩ (by omega)) (by simp) (by simp)
 simp [bC,h1]
theorem R2 (l:List Int) (h:∀ n∈l,0≤n∧n≤9999) (hl:l.length≤600) (tt:Bool):az TT HH [] cU [.sl tt (ab l),.fn (.func ib) []] []=some (.ret (.b false),[]):=by
 rw [mC]
 have h1:=au (wg (.fn (.func ib) []) l ⟨_,rfl,by simp,fun x hx=>xl x (h x hx).1 (h x hx).2⟩ (by omega)) (by simp) (by simp)
 simp [dM,h1]
theorem tE (l:List Tm) (L:List Sp) (N:List Int) (h:∀ x∈l,x.ok∧x.proper=true) (hl:l.length≤601) (hL:∀ s∈L,s.ok∧s.small=true) (hLl:L.length≤600) (hN:∀ n∈N,0≤n∧n≤9999) (hNl:N.length≤600) (a b c:Bool) :
  az TT HH [] kf [.sl a (ab l),.sl b (ab L),.sl c (ab N)] []=some (.ret (.b true),[]):=by
 rw [Di]
 have h0:¬ (601:Int)<l.length:=by omega
 have e3:l.length<9223372036854775808:=by omega
 have h1:=KN l h (.sl false (ab L)) (.sl false (ab N)) (by simp) (by simp) hl
 have h2:=au (Ud L hL hLl false) (by simp) (by simp)
 have h3:=au (R2 N hN hNl false) (by simp) (by simp)
 simp [rU,h0,h1,h2,h3,e3]
theorem G7:TT dS=some lG:=by kernel_rfl
theorem G8 (b:List Nat) (p q:Nat) (σ:Sto):pB TT (E TT HH) b dS [.ptr p 0,.ptr q 0] none σ=some (none,σ):=by
 unfold pB
 rw [G7]
 have tk:σ.take σ.length=σ:=List.take_length
 simp [lG,evR,ws,xB,vc,aF,tk]
theorem G9 (b:List Nat) (p q:Nat) (σ:Sto) (e:Int) (o1 o2:List PV) (hpq:p≠q) (hp:σ[p]? = some (.var o1)) (h4:o1.length=4) (hq:σ[q]? = some (.var o2)) (h1:o2.length=1) :
  pB TT (E TT HH) b dS [.ptr p 0,.ptr q 0] (some (fl e)) σ=some (none,(σ.set p (.var [.i 0,.i 0,.i 0,.sl true []])).set q (.var [.i e])):=by
 unfold pB
 rw [G7]
 have hpl:=bE hp
 have hql:=bE hq
 have hpl1:∀ j,p<σ.length+j:=fun j=>by omega
 have hql1:∀ j,q<σ.length+j:=fun j=>by omega
 have hq2:∀ x,(σ.set p x)[q]? = some (.var o2):=fun x=>by rw [List.getElem?_set_ne hpq]; exact hq
 obtain ⟨a1,a2,a3,a4,rfl⟩:∃ a b c d,o1=[a,b,c,d]:=by
  match o1,h4 with
  | [a,b,c,d],_=>exact ⟨a,b,c,d,rfl⟩
 obtain ⟨c1,rfl⟩:∃ a,o2=[a]:=List.length_eq_one_iff.1 h1
 have hnp:¬ σ.length=p:=by omega
 have tk:((σ.set p (.var [.i 0,.i 0,.i 0,.sl true []])).set q (.var [.i e])++[Ob.var [.i e]]).take σ.length=(σ.set p (.var [.i 0,.i 0,.i 0,.sl true []])).set q (.var [.i e]):=List.take_left' (by simp)
 simp [lG,evR,ws,xB,vc,aF,fl,hnp,tk,hp,hq,hq2,hpl,hql,hpl1,hql1,-getElem?_pos,List.getElem?_cons_zero,List.getElem?_cons_succ,List.getElem?_nil,ak,aw,aq,ax,ay,ag,af,take_set,ae]
theorem ru (bars:List Nat) (args:List PV) (σ:Sto) (hl:args.length=2):az TT HH bars er args σ=DK TT HH (σ.length::bars) ir_subst_Instance.body (ep 0 args) σ (kDf ir_subst_Instance σ.length):=Nv (by decide) (by kernel_rfl) (by kernel_rfl) (by decide) bars args σ hl
theorem pF (c x:Tm) (hc:c.ok) (hp:c.proper=true) (hx:x.ok) (hxp:x.proper=true):az TT HH [] er [c.enc,.sl false (ab [x])] []=some (.ret (.tup [(cu c x).2.enc,.i (cu c x).1]),[]):=by
 rw [ru _ _ _ rfl]
 have hf:=ar hp
 have hn:=aI hp
 have h1:=au (tE [c,x] [] [] (fun y hy=>by
  simp at hy
  rcases hy with rfl|rfl
  ·exact ⟨hc,hp⟩
  ·exact ⟨hx,hxp⟩) (by simp) (by simp) (by simp) (by simp) (by simp) false true true) (by simp) (by simp)
 simp [aB] at h1
 have l2:1+1≤LIM:=by decide
 have l1:1≤LIM:=by decide
 have hw:IntKind.i64.wrap 1=1:=ai _ (by omega) (by omega)
 have cs:∀ (e:Int) (c0 a b c:PV) (o:List PV) (tl:Sto),o.length=4→pB TT (E TT HH) [0] dS [.ptr 1 0,.ptr 2 0] (some (fl e)) (.var [a,b,c,c0]::.var o::.var [.i 0]::tl)=some (none,.var [a,b,c,c0]::.var [.i 0,.i 0,.i 0,.sl true []]::.var [.i e]::tl):=fun e c0 a b c o tl ho=>G9 [0] 1 2 _ e _ _ (by omega) rfl ho rfl rfl
 have cn:=G8 [0] 1 2
 have fail:=fun e=>au (gx e) (by simp) (by simp)
 have bad:∀ e:Int,(∃ (env:Env) (tl:Sto),LO TT HH [0] bg ([(2,.ptr 0 0),(4,.ptr 1 0),(5,.ptr 2 0),(6,.ptr 4 0),(25,.sl false [[.i x.op,.i x.hd,.i x.n,.sl false (ab x.args)]]),(26,.i 1),(27,.i 0)],[.var [.i c.op,.i c.hd,.i c.n,.sl false (ab c.args)],.var [.i 0,.i 0,.i 0,.ow 3 0 []],.var [.i 0],.tok 4 0,.var [.i 0]])=some (.pan (fl e),env,.var [.i c.op,.i c.hd,.i c.n,.sl false (ab c.args)]::.var [.i 0,.i 0,.i 0,.ow 3 0 []]::.var [.i 0]::tl)∧bw env 4=some (.ptr 1 0)∧bw env 5=some (.ptr 2 0)) →
   DK TT HH [0] ir_subst_Instance.body (ep 0 [c.enc,.sl false (ab [x])]) [] (kDf ir_subst_Instance 0)=some (.ret (.tup [tz.enc,.i e]),[]):=fun e ⟨env,tl,hlo,hk4,hk5⟩=>by
  have cs:=cs e (.sl false (ab c.args)) (.i c.op) (.i c.hd) (.i c.n) [.i 0,.i 0,.i 0,.ow 3 0 []] tl rfl
  simp [ir_subst_Instance,h1,l1,l2,aB,aj,aa,aD]
  rw [Qn (g:=dS) (cap:=[]) (vs:=[.ptr 1 0,.ptr 2 0]) (u:=none) rfl rfl (by simp [Hz])]
  simp [hlo,kDc,cs,hk4,hk5,tz,Tm.enc]
 unfold cu
 by_cases h2:c.op=2
 ·obtain ⟨a,b,hab,ha,hb⟩:=cz hf h2
  have na:=dJ (t:=c) (x:=a) (by rw [hab]; simp)
  have nb:=dJ (t:=c) (x:=b) (by rw [hab]; simp)
  have hap:=aR hp (x:=a) (by rw [hab]; simp)
  have hsm:=au (kJ a (hc.sub a (by rw [hab]; simp)) hap) (by simp) (by simp)
  simp only [h2,hab,ne_eq,not_true,if_false]
  cases hs:a.smp with
  | none =>
   rw [hs] at hsm
   refine bad 22 ?_
   rw [aP,aF]
   generalize LO TT HH [0] bg=F
   simp [bg,h2,hab,hsm,fail,aB,aa]
  | some s =>
   rw [hs] at hsm
   obtain ⟨g1,g2,g3⟩:=iG hap hs
   have hsl:=au (kF s g1) (by simp) (by simp)
   rw [g3] at hsl
   have hsub:∀ e0 e1 e2 e3 e4 e5,RR TT HH [5,0] cm [.ptr 4 0,b.enc,.i 0,x.enc,s.enc] [e0,e1,e2,e3,.var [.i 0],e4,e5]=some (if (aN 20000 b 0 x s 0).2.1=0 then .ret (aN 20000 b 0 x s 0).2.2.enc else .pan (fl (aN 20000 b 0 x s 0).2.1),[e0,e1,e2,e3,.var [.i (aN 20000 b 0 x s 0).1],e4,e5]):=fun e0 e1 e2 e3 e4 e5=>by
    rw [aX (by simp) (by simp),JK 20000 b 0 x s 0 2 4 _ _ (hc.sub b (by rw [hab]; simp)) hb (by omega) (by omega) (by omega) hx hxp g1 (by omega) (by omega) (by omega) rfl (by simp)]
    rfl
   by_cases he:(aN 20000 b 0 x s 0).2.1=0
   ·simp only [he,if_true] at hsub ⊢
    have hiv:=jg 20000 b 0 x s 0 2 (hc.sub b (by rw [hab]; simp)) hb (by omega) (by omega) hx hxp g1 (by omega) (by omega) he
    generalize aN 20000 b 0 x s 0=A at *
    have hcp:=au (uC A.2.2 hiv.ok 1 (ar hiv.pr) (by omega) (by have:=aI hiv.pr; omega)) (by simp) (by simp)
    have hlo:LO TT HH [0] bg ([(2,.ptr 0 0),(4,.ptr 1 0),(5,.ptr 2 0),(6,.ptr 4 0),(25,.sl false [[.i x.op,.i x.hd,.i x.n,.sl false (ab x.args)]]),(26,.i 1),(27,.i 0)],[.var [.i c.op,.i c.hd,.i c.n,.sl false (ab c.args)],.var [.i 0,.i 0,.i 0,.ow 3 0 []],.var [.i 0],.tok 4 0,.var [.i 0]]) =
      some (.exit 0,[(2,.ptr 0 0),(4,.ptr 1 0),(5,.ptr 2 0)],[.var (Enc.cells A.2.2),.var [.i 0,.i 0,.i 0,.ow 3 0 []],.var [.i 0],.tok 4 0,.var [.i A.1]]):=by
     rw [aP,aF]
     have h2nd:∀ (e:Env) (s:Sto),e=[(2,.ptr 0 0),(4,.ptr 1 0),(5,.ptr 2 0),(6,.ptr 4 0),(25,.sl false [[.i x.op,.i x.hd,.i x.n,.sl false (ab x.args)]]),(26,.i 1),(27,.i 1)]→s.length=5→LO TT HH [0] bg (e,s)=some (.exit 0,[(2,.ptr 0 0),(4,.ptr 1 0),(5,.ptr 2 0)],s):=fun e s he hs=>by
      subst he
      rw [aP,aF]
      have:s.take 5=s:=List.take_of_length_le (by omega)
      simp [bg,hs,this]
     generalize LO TT HH [0] bg=F at h2nd ⊢
     simp [bg,h2,hab,hsm,hsl,hsub,hw,aB,aa,aD,h2nd]
    simp [h2,hab,aB] at hlo
    simp [ir_subst_Instance,h1,l1,l2,aB,aj,aa,aD]
    rw [Qn (g:=dS) (cap:=[]) (vs:=[.ptr 1 0,.ptr 2 0]) (u:=none) rfl rfl (by simp [Hz])]
    simp [hlo,h2,hab,aB,kDc,cn,hcp,aa,aj]
   ·simp only [he,if_false] at hsub ⊢
    generalize aN 20000 b 0 x s 0=A at *
    refine bad A.2.1 ?_
    rw [aP,aF]
    generalize LO TT HH [0] bg=F
    simp [bg,h2,hab,hsm,hsl,hsub,hw,aB,aa,aD]
    exact ⟨rfl,rfl⟩
 ·simp only [h2,ne_eq,not_false_iff,if_true]
  refine bad 23 ?_
  rw [aP,aF]
  generalize LO TT HH [0] bg=F
  simp [bg,h2,fail,aB,aa]
end Go.Ev

namespace Go.Ev
theorem oM (t:Tm):az TT HH [] jN [t.enc] []=some (.ret (nH t).enc,[]):=by
 rw [GK]
 simp [uk,nH,Tm.enc,aB]
theorem KO:∀ (j:Nat) (t:Tm) (i:Nat) (k:Int) (a b c:Ob),(i:Int)+j=k→k≤4000→LO TT HH [0] cI ([(6,.ptr 1 0),(8,.ptr 2 0),(44,.i k),(45,.i i)],[a,b,.var [.i t.op,.i t.hd,.i t.n,.sl false (ab t.args)],c])=some (.exit 2,[(6,.ptr 1 0),(8,.ptr 2 0)],[a,b,.var [.i (dz j t).op,.i (dz j t).hd,.i (dz j t).n,.sl false (ab (dz j t).args)],c]):=by
 intro j
 induction j with
 | zero =>
  intro t i k a b c h hk
  rw [aP,aF]
  generalize LO TT HH [0] cI=F
  have:¬ (i:Int)<k:=by omega
  simp [cI,this,dz]
 | succ j ih =>
  intro t i k a b c h hk
  have hth:=ih (nH t) (i+1) k a b c (by push_cast at h ⊢; omega) hk
  rw [aP,aF]
  generalize LO TT HH [0] cI=F at hth ⊢
  have e1:(i:Int)<k:=by omega
  have hw:IntKind.i64.wrap ((i:Int)+1)=(i:Int)+1:=ai _ (by omega) (by omega)
  have hl:=au (oM t) (by simp) (by simp)
  push_cast at hth
  simp [cI,e1,hw,hl,hth,aa,dz]
set_option maxHeartbeats 1000000 in
theorem z8:∀ s:Sp,s.ok→s.cons≤600→∀ hd n:Int,1≤hd→hd≤3→-1000≤n→n≤99999→az TT HH [] mY [.i hd,.i n,s.enc] []=some (.ret (eH s hd n).enc,[]) :=
 Sp.ind fun s ih hok hc hd n h1 h2 h3 h4=>by
  rw [Dq,sy]
  have hcs:=oK s
  have hl:=u6 s.args
  have e3:=ml hok.len
  have hlo:=fun (N:Int)=>be (T:=TT) (H:=HH) (b:=[0]) (A:=lM) s.args
   (fun i (l:List Tm)=>([(6,.ptr 1 0),(7,.i s.args.length),(8,.ptr 2 0),(25,.sl false (ab s.args)),(26,.i s.args.length),(27,.i i)],[.var [.sl false (ab s.args),.i s.con],.var [.i 0,.i 0,.i 0,.sl true []],.var [.i 4,.i hd,.i N,.ow 3 l.length (ab l)],.tok 4 l.length]))
   (fun r i l=>(.exit 0,[(6,.ptr 1 0),(7,.i s.args.length),(8,.ptr 2 0)],[.var [.sl false (ab s.args),.i s.con],.var [.i 0,.i 0,.i 0,.sl true []],.var [.i 4,.i hd,.i N,.ow 3 (l++cN r s.args.length i).length (ab (l++cN r s.args.length i))],.tok 4 (l++cN r s.args.length i).length]))
   (fun i l=>l.length=i)
   (fun l _=>by
    rw [aF]
    simp [lM,cN])
   (fun i x r l hx hm hd' hi hl'=>by
    have e1:(i:Int)<s.args.length:=by omega
    have hw:IntKind.i64.wrap ((i:Int)+1)=(i:Int)+1:=ai _ (by omega) (by omega)
    have hw1:IntKind.i64.wrap ((s.args.length:Int) - 1)=(s.args.length:Int) - 1:=ai _ (by omega) (by omega)
    have hw2:IntKind.i64.wrap ((s.args.length:Int) - 1 - i)=(s.args.length:Int) - 1 - i:=ai _ (by omega) (by omega)
    have hcx:=u7 hm
    have hcc:=au (ih x hm (hok.sub x hm) (by omega) 1 ((s.args.length:Int) - 1 - i) (by omega) (by omega) (by omega) (by omega)) (by simp) (by simp)
    have hl1:l.length+1≤LIM:=by unfold LIM; omega
    refine .inr ⟨l++[eH x 1 ((s.args.length:Int) - 1 - i)],?_,by simp [hl'],by simp [cN]⟩
    rw [aF]
    simp [lM,e1,hx,hcc,hw,hw1,hw2,hl1,aa,aD,aj]
    try simp [hl',DY]) 0 [] (by omega) rfl
  clear ih
  simp at hlo
  have hll:(cN s.args s.args.length 0).length=s.args.length:=my _ _ _
  have hlim:s.args.length≤LIM:=by unfold LIM; omega
  generalize hL:cN s.args s.args.length 0=L at *
  have fin:∀ N:Int,(∃ cs:List PV,LO TT HH [0] cI ([(6,.ptr 1 0),(8,.ptr 2 0),(44,.i s.args.length),(45,.i 0)],[.var [.sl false (ab s.args),.i s.con],.var [.i 0,.i 0,.i 0,.sl true []],.var [.i 4,.i hd,.i N,.ow 3 L.length (ab L)],.tok 4 L.length])=some (.exit 2,[(6,.ptr 1 0),(8,.ptr 2 0)],[.var [.sl false (ab s.args),.i s.con],.var [.i 0,.i 0,.i 0,.sl true []],.var cs,.tok 4 L.length])∧cs.length=4∧norm.normAll cs=Enc.cells (dz s.args.length (.mk 4 hd N L))):=fun N=>by
   cases hk:s.args.length with
   | zero =>
    refine ⟨[.i 4,.i hd,.i N,.ow 3 L.length (ab L)],?_,rfl,by simp [dz,norm.normAll,norm]⟩
    rw [aP,aF]
    generalize LO TT HH [0] cI=F
    simp [cI]
   | succ m =>
    have hth:=KO m (nH (.mk 4 hd N L)) 1 ((m:Int)+1) (.var [.sl false (ab s.args),.i s.con]) (.var [.i 0,.i 0,.i 0,.sl true []]) (.tok 4 L.length) (by omega) (by omega)
    rw [show ((1:Nat):Int)=1 from rfl] at hth
    refine ⟨Enc.cells (dz (m+1) (.mk 4 hd N L)),?_,by simp,by simp [norm.normAll,norm]⟩
    rw [aP,aF]
    generalize LO TT HH [0] cI=F at hth ⊢
    have e1:(0:Int)<(m:Int)+1:=by omega
    have hw:IntKind.i64.wrap 1=1:=ai _ (by omega) (by omega)
    have hlam:∀ bars σ,RR TT HH bars jN [.agg [.i 4,.i hd,.i N,.ow 3 L.length (ab L)]] σ=some (.ret (nH (.mk 4 hd N L)).enc,σ):=fun bars σ=>by
     refine kH ?_ (by simp) (by simp) (by simp) bars σ
     rw [← oM]
     simp [Tm.enc]
    simp [cI,e1,hw,hlam,hth,aa,dz]
  by_cases hh:hd=1
  ·rw [if_pos hh]
   subst hh
   have hw:IntKind.i64.wrap (n+s.args.length)=n+s.args.length:=ai _ (by omega) (by omega)
   obtain ⟨cs,f1,f2,f3⟩:=fin (n+s.args.length)
   obtain ⟨c1,c2,c3,c4,rfl⟩:∃ a b c d,cs=[a,b,c,d]:=by
    match cs,f2 with
    | [a,b,c,d],_=>exact ⟨a,b,c,d,rfl⟩
   simp [norm.normAll] at f3
   simp [oJ,hlo,f1,e3,hw,aj,aD]
   simp [Tm.enc,f3]
  ·rw [if_neg hh]
   obtain ⟨cs,f1,f2,f3⟩:=fin n
   obtain ⟨c1,c2,c3,c4,rfl⟩:∃ a b c d,cs=[a,b,c,d]:=by
    match cs,f2 with
    | [a,b,c,d],_=>exact ⟨a,b,c,d,rfl⟩
   simp [norm.normAll] at f3
   simp [oJ,hlo,f1,e3,hh,aj,aD]
   simp [Tm.enc,f3]
theorem Aa (s:Sp) (h:s.ok) (hs:s.small=true) (hc:s.cons≤600) (hd n:Int) (h1:1≤hd) (h2:hd≤3) (h3:0≤n) (h4:n≤9999) :
  az TT HH [] pS [.i hd,.i n,s.enc] []=some (.ret (if (eH s hd n).proper then .tup [(eH s hd n).enc,.i 0] else .tup [tz.enc,.i 5]),[]):=by
 rw [Dg]
 have g1:=au (tE [] [s] [n] (by simp) (by simp) (by simp [h,hs]) (by simp) (by simp [h3,h4]) (by simp) true true true) (by simp) (by simp)
 simp [aB] at g1
 have g2:=au (z8 s h hc hd n h1 h2 (by omega) (by omega)) (by simp) (by simp)
 have g3:=au (bO (eH s hd n) (uD s hc hd n h1 h2 (by omega) (by omega))) (by simp) (by simp)
 have k1:¬ hd<1:=by omega
 have k2:¬ 3<hd:=by omega
 have l1:1≤LIM:=by decide
 cases hp:(eH s hd n).proper with
 | true =>
  rw [hp] at g3
  simp [oD,g1,g2,g3,k1,k2,l1,aD,aa,aB]
 | false =>
  rw [hp] at g3
  simp [oD,g1,g2,g3,k1,k2,l1,aD,aa,aB]
  simp [tz,Tm.enc]
end Go.Ev

namespace Go.Ev
theorem IM:∀ (j:Nat) (t:Tm) (i:Nat) (k:Int) (a b c d:Ob),(i:Int)+j=k→k≤4000→LO TT HH [0] cH ([(6,.ptr 1 0),(7,.i k),(8,.ptr 2 0),(11,.i i)],[a,b,.var [.i t.op,.i t.hd,.i t.n,.sl false (ab t.args)],c])=some (.exit 2,[(6,.ptr 1 0),(8,.ptr 2 0)],[a,b,.var [.i (dz j t).op,.i (dz j t).hd,.i (dz j t).n,.sl false (ab (dz j t).args)],c]):=by
 intro j
 induction j with
 | zero =>
  intro t i k a b c d h hk
  rw [aP,aF]
  generalize LO TT HH [0] cH=F
  have:¬ (i:Int)<k:=by omega
  simp [cH,this,dz]
 | succ j ih =>
  intro t i k a b c d h hk
  have hth:=ih (nH t) (i+1) k a b c d (by push_cast at h ⊢; omega) hk
  rw [aP,aF]
  generalize LO TT HH [0] cH=F at hth ⊢
  have e1:(i:Int)<k:=by omega
  have hw:IntKind.i64.wrap ((i:Int)+1)=(i:Int)+1:=ai _ (by omega) (by omega)
  push_cast at hth
  simp [nH,aB] at hth
  simp [cH,e1,hw,hth,aa,dz,nH,aB,aj]
set_option maxHeartbeats 1000000 in
theorem Ab:∀ s:Sp,s.ok→s.cons≤600→∀ hd n:Int,1≤hd→hd≤3→-1000≤n→n≤99999→az TT HH [] mX [.i hd,.i n,s.enc] []=some (.ret (eH s hd n).enc,[]) :=
 Sp.ind fun s ih hok hc hd n h1 h2 h3 h4=>by
  rw [Do,sy]
  have hcs:=oK s
  have hl:=u6 s.args
  have e3:=ml hok.len
  have hlo:=fun (N:Int)=>be (T:=TT) (H:=HH) (b:=[0]) (A:=lJ) s.args
   (fun i (l:List Tm)=>([(5,.ptr 0 0),(6,.ptr 1 0),(7,.i s.args.length),(8,.ptr 2 0),(9,.i i)],[.var [.sl false (ab s.args),.i s.con],.var [.i 0,.i 0,.i 0,.sl true []],.var [.i 4,.i hd,.i N,.ow 3 l.length (ab l)],.tok 4 l.length]))
   (fun r i l=>(.exit 0,[(6,.ptr 1 0),(7,.i s.args.length),(8,.ptr 2 0)],[.var [.sl false (ab s.args),.i s.con],.var [.i 0,.i 0,.i 0,.sl true []],.var [.i 4,.i hd,.i N,.ow 3 (l++cN r s.args.length i).length (ab (l++cN r s.args.length i))],.tok 4 (l++cN r s.args.length i).length]))
   (fun i l=>l.length=i)
   (fun l _=>by
    rw [aF]
    simp [lJ,cN])
   (fun i x r l hx hm hd' hi hl'=>by
    have e1:(i:Int)<s.args.length:=by omega
    have hw:IntKind.i64.wrap ((i:Int)+1)=(i:Int)+1:=ai _ (by omega) (by omega)
    have hw1:IntKind.i64.wrap ((s.args.length:Int) - 1)=(s.args.length:Int) - 1:=ai _ (by omega) (by omega)
    have hw2:IntKind.i64.wrap ((s.args.length:Int) - 1 - i)=(s.args.length:Int) - 1 - i:=ai _ (by omega) (by omega)
    have hcx:=u7 hm
    have hcc:=au (ih x hm (hok.sub x hm) (by omega) 1 ((s.args.length:Int) - 1 - i) (by omega) (by omega) (by omega) (by omega)) (by simp) (by simp)
    have hl1:l.length+1≤LIM:=by unfold LIM; omega
    refine .inr ⟨l++[eH x 1 ((s.args.length:Int) - 1 - i)],?_,by simp [hl'],by simp [cN]⟩
    rw [aF]
    simp [lJ,e1,hx,hcc,hw,hw1,hw2,hl1,aa,aD,aj]
    try simp [hl',DY]) 0 [] (by omega) rfl
  clear ih
  simp at hlo
  have hll:(cN s.args s.args.length 0).length=s.args.length:=my _ _ _
  have hlim:s.args.length≤LIM:=by unfold LIM; omega
  generalize hL:cN s.args s.args.length 0=L at *
  have fin:∀ N:Int,(∃ cs:List PV,LO TT HH [0] cH ([(6,.ptr 1 0),(7,.i s.args.length),(8,.ptr 2 0),(11,.i 0)],[.var [.sl false (ab s.args),.i s.con],.var [.i 0,.i 0,.i 0,.sl true []],.var [.i 4,.i hd,.i N,.ow 3 L.length (ab L)],.tok 4 L.length])=some (.exit 2,[(6,.ptr 1 0),(8,.ptr 2 0)],[.var [.sl false (ab s.args),.i s.con],.var [.i 0,.i 0,.i 0,.sl true []],.var cs,.tok 4 L.length])∧cs.length=4∧norm.normAll cs=Enc.cells (dz s.args.length (.mk 4 hd N L))):=fun N=>by
   cases hk:s.args.length with
   | zero =>
    refine ⟨[.i 4,.i hd,.i N,.ow 3 L.length (ab L)],?_,rfl,by simp [dz,norm.normAll,norm]⟩
    rw [aP,aF]
    generalize LO TT HH [0] cH=F
    simp [cH]
   | succ m =>
    have hth:=IM m (nH (.mk 4 hd N L)) 1 ((m:Int)+1) (.var [.sl false (ab s.args),.i s.con]) (.var [.i 0,.i 0,.i 0,.sl true []]) (.tok 4 L.length) (.tok 4 L.length) (by omega) (by omega)
    rw [show ((1:Nat):Int)=1 from rfl] at hth
    refine ⟨Enc.cells (dz (m+1) (.mk 4 hd N L)),?_,by simp,by simp [norm.normAll,norm]⟩
    rw [aP,aF]
    generalize LO TT HH [0] cH=F at hth ⊢
    have e1:(0:Int)<(m:Int)+1:=by omega
    have hw:IntKind.i64.wrap 1=1:=ai _ (by omega) (by omega)
    simp [nH,aB] at hth
    simp [cH,e1,hw,hth,aa,dz,nH,aB,aj]
  by_cases hh:hd=1
  ·rw [if_pos hh]
   subst hh
   have hw:IntKind.i64.wrap (n+s.args.length)=n+s.args.length:=ai _ (by omega) (by omega)
   obtain ⟨cs,f1,f2,f3⟩:=fin (n+s.args.length)
   obtain ⟨c1,c2,c3,c4,rfl⟩:∃ a b c d,cs=[a,b,c,d]:=by
    match cs,f2 with
    | [a,b,c,d],_=>exact ⟨a,b,c,d,rfl⟩
   simp [norm.normAll] at f3
   simp [oI,hlo,f1,e3,hw,aj,aD]
   simp [Tm.enc,f3]
  ·rw [if_neg hh]
   obtain ⟨cs,f1,f2,f3⟩:=fin n
   obtain ⟨c1,c2,c3,c4,rfl⟩:∃ a b c d,cs=[a,b,c,d]:=by
    match cs,f2 with
    | [a,b,c,d],_=>exact ⟨a,b,c,d,rfl⟩
   simp [norm.normAll] at f3
   simp [oI,hlo,f1,e3,hh,aj,aD]
   simp [Tm.enc,f3]
theorem Ac (s:Sp) (h:s.ok) (hs:s.small=true) (hc:s.cons≤600) (hd n:Int) (h1:1≤hd) (h2:hd≤3) (h3:0≤n) (h4:n≤9999) :
  az TT HH [] pQ [.i hd,.i n,s.enc] []=some (.ret (if (eH s hd n).proper then .tup [(eH s hd n).enc,.i 0] else .tup [tz.enc,.i 5]),[]):=by
 rw [Da]
 have g0:=au (xi n) (by simp) (by simp)
 simp only [h3,h4,decide_true,Bool.and_self] at g0
 have g1:=au (n9 s h hs) (by simp) (by simp)
 have g2:=au (Ab s h hc hd n h1 h2 (by omega) (by omega)) (by simp) (by simp)
 have g3:=au (kI (eH s hd n) (uD s hc hd n h1 h2 (by omega) (by omega))) (by simp) (by simp)
 have k1:¬ hd<1:=by omega
 have k2:¬ 3<hd:=by omega
 cases hp:(eH s hd n).proper with
 | true =>
  rw [hp] at g3
  simp [oB,g0,g1,g2,g3,k1,k2,aD,aa]
 | false =>
  rw [hp] at g3
  simp [oB,g0,g1,g2,g3,k1,k2,aD,aa]
end Go.Ev

namespace Go.Ev
def rx (l:List Int) (x:Tm×Int):List Int:=match cD 3 x with
 | some n=>wd l n
 | none=>l
theorem Ny (ns:List (Tm×Int)):∀ l,(ns.foldl rx l).length≤l.length+ns.length∧(l.Nodup→(ns.foldl rx l).Nodup)∧∀ x,x∈ns.foldl rx l ↔ x∈l∨∃ y∈ns,cD 3 y=some x:=by
 induction ns with
 | nil=>intro l; simp
 | cons a r ih =>
  intro l
  obtain ⟨h1,h2,h3⟩:=ih (rx l a)
  rw [List.foldl_cons]
  have hk:(rx l a).length≤l.length+1∧(l.Nodup→(rx l a).Nodup)∧∀ x,x∈rx l a ↔ x∈l∨cD 3 a=some x:=by
   unfold rx
   cases hv:cD 3 a with
   | none=>simp
   | some n =>
    refine ⟨?_,Cf n,fun x=>?_⟩
    ·simp only [wd]; split<;>simp
    ·simp only [wd]
     split
     ·rename_i hm
      simp only [Option.some.injEq]
      exact ⟨.inl,fun h=>h.elim id (fun e=>e ▸ hm)⟩
     ·simp only [List.mem_append,List.mem_singleton,Option.some.injEq]
      exact ⟨fun h=>h.imp id Eq.symm,fun h=>h.imp id Eq.symm⟩
  refine ⟨by simp; omega,fun h=>h2 (hk.2.1 h),fun x=>?_⟩
  rw [h3,hk.2.2 x]
  simp only [List.mem_cons,exists_eq_or_imp,or_assoc]
theorem xn (x:Tm) (k:Int):az TT HH [] eS [x.enc,.i k] []=some (.ret (.tup [.i x.n,.b (decide (x.hd=3))]),[]):=by
 rw [zM]
 simp [ph]
def NM (t:Tm) (l:List Int):Sto:=[.var (Enc.cells t),.var [.fn (.func eS) []],.mp (yu l),.var [.map 2]]
theorem yI (t x:Tm) (k:Int) (l:List Int) (bars:List Nat) (ext:Sto) :
  RR TT HH bars cx [x.enc,.i k,.ptr 1 0,.ptr 3 0] (NM t l++ext)=some (.ret (.tup []),NM t (rx l (x,k))++ext):=by
 rw [aX (by simp) (by simp),rk]
 obtain ⟨op,hd,n,args⟩:=x
 by_cases a:op=4
 ·have hc:=au (xn (.mk op hd n args) k) (by simp) (by simp)
  have hm:=yv n l
  subst a
  by_cases b:hd=3
  ·subst b
   simp [NM,rx,cD] at hc ⊢
   simp [cV,hc,eI,hm]
  ·simp [NM,rx,cD,b] at hc ⊢
   simp [cV,hc,eI]
 ·simp [NM,rx,cD,a]
  simp [cV,a]
def nL (t:Tm):List Int:=(t.nds 0).foldl rx []
theorem Cs (t:Tm) (h:t.ok) (hp:t.proper=true):az TT HH [] hU [t.enc,.fn (.func eS) []] []=some (.ret (.tup [.sl false (ab (gp (nL t))),.i 0]),[]):=by
 rw [tB]
 have hf:=ar hp
 have hnd:=aI hp
 have h1:=au (bO t h) (by simp) (by simp)
 rw [hp] at h1
 have hgood:∀ y∈t.nds 0,(y.1.op=4→0≤y.1.n∧y.1.n≤9999)∧0≤y.2∧y.2≤100:=fun y hy=>by
  have:=kA hf (by omega) hy
  exact ⟨fun h4=>(jq this.1 h4).2.2,this.2.1,by omega⟩
 have h2:∀ bars,RR TT HH bars ck [t.enc,.i 0,.fn (.func cx) [.ptr 1 0,.ptr 3 0]] (NM t [])=some (.ret (.tup []),NM t (nL t)):=fun bars=>by
  rw [aX (by simp) (by simp)]
  have:=jX cx [.ptr 1 0,.ptr 3 0] (by simp) (by simp) (NM t) rx 4 (fun _=>rfl) (fun n hn=>by simp; omega) (fun y=>(y.1.op=4→0≤y.1.n∧y.1.n≤9999)∧0≤y.2∧y.2≤100)
   (fun x k s bars ext hg=>yI t x k s bars ext) t h 0 1 [] bars [] hf (by omega) (by omega) hgood
  simpa [nL] using this
 obtain ⟨k1,k2,k3⟩:=Ny (t.nds 0) []
 rw [p9] at k1
 have h3:=fun bars (σ:Sto)=>D9 bars 2 σ
 have h4:∀ bars,RR TT HH bars 205 [.fn (.func 235) [.ptr 4 0]] (NM t (nL t)++[.var [.map 2]])=some (.ret (.sl false (ab (gp (nL t)))),NM t (nL t)++[.var [.map 2]]):=fun bars =>
  zq bars 4 2 _ (nL t) rfl rfl (k2 (by simp)) (fun x hx=>by
   rcases (k3 x).1 hx with hx|⟨y,hy,hv⟩
   ·cases hx
   ·have:=hgood y hy
    obtain ⟨a,b,c⟩:=hval3.1 hv
    have hn:=this.1 a
    simp only [ue,decide_eq_true_eq]; omega) (by unfold nL LIM; simp only [List.length_nil] at k1; omega)
 simp [NM] at h2 h4
 have h2':∀ bars,RR TT HH bars ck [t.enc,.i 0,.fn (.func cx) [.ptr 1 0,.ptr 3 0]] [.var [.i t.op,.i t.hd,.i t.n,.sl false (ab t.args)],.var [.fn (.func eS) []],.mp [],.var [.map 2]]=some (.ret (.tup []),[.var [.i t.op,.i t.hd,.i t.n,.sl false (ab t.args)],.var [.fn (.func eS) []],.mp (yu (nL t)),.var [.map 2]]):=h2
 simp [lL,h1,h2',h3,h4,aa,aj]
theorem tF (t:Tm) (h:t.ok) (hp:t.proper=true):az TT HH [] mR [t.enc] []=some (.ret (.tup [.sl false (ab (gp (nL t))),.i 0]),[]):=by
 rw [Df]
 have h1:=au (Cs t h hp) (by simp) (by simp)
 simp [rT,h1,aa]
theorem Eh (t:Tm) (m:Int):m∈gp (nL t) ↔ MI t m:=by
 rw [(gM _).mem_iff]
 unfold nL MI
 rw [(Ny (t.nds 0) []).2.2 m]
 simp
theorem Ei (t:Tm) (hp:t.proper=true):(gp (nL t)).length≤600:=by
 have k1:=(Ny (t.nds 0) []).1
 rw [p9,List.length_nil] at k1
 rw [(gM _).length_eq]; have:=aI hp; unfold nL; omega
theorem Qo (t:Tm) (B:Int):t.mb B=true ↔ ∀ m,MI t m→m<B:=by
 rw [Fq B t 0,List.all_eq_true]
 constructor
 ·intro h m ⟨x,hx,hv⟩
  obtain ⟨a,b,c⟩:=hval3.1 hv
  have:=h x hx
  simp [mV,a,b] at this
  omega
 ·intro h x hx
  unfold mV
  by_cases a:x.1.op=4
  ·by_cases b:x.1.hd=3
   ·have:=h x.1.n ⟨x,hx,hval3.2 ⟨a,b,rfl⟩⟩
    simp [this]
   ·simp [b]
  ·simp [a]
theorem PO {l:List Int} (h:l.Pairwise (·≤·)) (hl:l≠[]) (n:Int):l.getLast hl<n ↔ ∀ x∈l,x<n:=by
 induction l with
 | nil=>exact absurd rfl hl
 | cons a r ih =>
  obtain ⟨h1,h2⟩:=List.pairwise_cons.1 h
  by_cases hr:r=[]
  ·subst hr; simp
  ·rw [List.getLast_cons hr,ih h2 hr]
   refine ⟨fun g x hx=>?_,fun g x hx=>g x (by simp [hx])⟩
   rcases List.mem_cons.1 hx with rfl|hx
   ·have h3:=List.getLast_mem hr
    have:=h1 _ h3
    have:=g _ h3
    omega
   ·exact g x hx
theorem lT (t:Tm) (h:t.ok) (hp:t.proper=true) (B:Int):az TT HH [] fu [t.enc,.i B] []=some (.ret (.b (t.mb B)),[]):=by
 rw [C4]
 have h1:=au (tF t h hp) (by simp) (by simp)
 have hm:=Eh t
 have hl:=Ei t hp
 have hs:=sW (nL t)
 generalize gp (nL t)=l at *
 have e3:l.length<9223372036854775808:=by omega
 by_cases h0:l=[]
 ·subst h0
  have:t.mb B=true:=(Qo t B).2 fun m hm'=>by have:=(hm m).2 hm'; simp at this
  simp [ox,h1,aa,this]
 ·have hpos:0<l.length:=List.length_pos_iff.2 h0
  have h5:¬ (l.length:Int)=0:=by omega
  have h6:¬ l.length=0:=by omega
  have hw:IntKind.i64.wrap ((l.length:Int) - 1)=(l.length:Int) - 1:=ai _ (by omega) (by omega)
  have hi1:(0:Int)≤(l.length:Int) - 1:=by omega
  have hi2:(l.length:Int) - 1<l.length:=by omega
  have hx:l[l.length - 1]? = some (l.getLast h0):=by
   rw [List.getLast_eq_getElem,List.getElem?_eq_getElem]
  have hb:decide (l.getLast h0<B)=t.mb B:=by
   rw [Bool.eq_iff_iff,decide_eq_true_eq,PO hs h0,Qo]
   exact ⟨fun g m hm'=>g m ((hm m).2 hm'),fun g m hm'=>g m ((hm m).1 hm')⟩
  have i1:(1:Int)≤l.length:=by omega
  have i2:(l.length:Int)<l.length+1:=by omega
  simp [ox,h1,aa,e3,h0,h5,h6,hw,hi1,hi2,hx,i1,hb,-getElem?_pos,List.getElem?_cons_zero,List.getElem?_cons_succ,List.getElem?_nil,ak,aw,aq,ax,ay,ag,af,take_set,ae]
theorem Ej (t:Tm) (h:cY 1 (t.nds 0) []=[]):gp (li t)=[]:=by
 have h1:=(D8 (t.nds 0) []).2.2
 have h2:=u4 1 (t.nds 0) []
 rw [List.eq_nil_iff_forall_not_mem]
 intro x hx
 rw [(gM _).mem_iff] at hx
 have:=(h2 x).2 ((h1 x).1 hx)
 rw [h] at this
 simp at this
theorem IN (t:Tm) (h:cY 1 (t.nds 0) []≠[]):gp (li t)≠[]:=by
 have h1:=(D8 (t.nds 0) []).2.2
 have h2:=u4 1 (t.nds 0) []
 intro hc
 refine h (List.eq_nil_iff_forall_not_mem.2 fun x hx=>?_)
 have:=(h1 x).2 ((h2 x).1 hx)
 have hx:x∈gp (li t):=(gM _).mem_iff.2 this
 rw [hc] at hx
 simp at hx
theorem yJ (t:Tm) (h:t.ok) (hp:t.proper=true) (hh:cY 1 (t.nds 0) []=[]) (B:Int) (hm:t.mb B=true):az TT HH [] kY [t.enc,.i B] []=some (.ret (.b true),[]):=by
 rw [BU]
 have h1:=au (qM t h hp) (by simp) (by simp)
 rw [Ej t hh] at h1
 have h2:=au (lT t h hp B) (by simp) (by simp)
 rw [hm] at h2
 simp at h1
 simp [qC,h1,h2,aa]
theorem Fx (t:Tm) (h:t.ok) (hp:t.proper=true):az TT HH [] qe [t.enc] []=some (.ret (.sl false (ab (gp (nL t)))),[]):=by
 rw [Iz]
 have h1:=au (tF t h hp) (by simp) (by simp)
 simp [vT,h1,aa]
theorem Ct:az TT HH [] rf [tz.enc] []=some (.ret (.b true),[]):=by
 rw [Fa]
 have h1:∀ bars (σ:Sto),RR TT HH bars aM [.sl false [],.sl false [],.fn (.func fz) []] σ=some (.ret (.b true),σ):=au (by
  rw [fj]
  have hlo:∀ e:Env,LO TT HH [0] aV ((1,.sl false [])::(2,.fn (.func fz) [])::(15,.sl false [])::(16,.i 0)::(17,.i 0)::e,[])=some (.exit 0,[],[]):=fun e=>by
   rw [aP,aF]
   generalize LO TT HH [0] aV=F
   simp [aV]
  simp [bA,hlo]) (by simp) (by simp)
 have h2:∀ bars (σ:Sto),RR TT HH bars fz [tz.enc,.agg [.i 0,.i 0,.i 0,.sl true []]] σ=some (.ret (.b true),σ):=au (by
  rw [E9]
  simp [s7,h1,tz,Tm.enc]) (by simp) (by simp)
 simp [tz,Tm.enc] at h2
 simp [s8,h2,tz,Tm.enc]
end Go.Ev

namespace Go.Ev
@[simp] theorem Cu (m:Mt):Enc.cells m=[.s m.name,.i m.class_.op,.i m.class_.hd,.i m.class_.n,.sl false (ab m.class_.args),.b m.solved,.i m.value.op,.i m.value.hd,.i m.value.n,.sl false (ab m.value.args)]:=by
 show PV.s m.name::(Enc.cells m.class_++PV.b m.solved::Enc.cells m.value)=_
 simp
def Mt.enc (m:Mt):PV:=.agg (Enc.cells m)
@[simp] theorem Ue (n:Nat) (m:Mt):below n m.enc=true:=by rw [Mt.enc,Bo,Enc.below]
@[simp] theorem U0 (m:Mt):norm m.enc=m.enc:=by rw [Mt.enc,norm,Enc.nrm]
@[simp] theorem Vv (m:Mt):okc m.enc=true:=rfl
@[simp] theorem Uf (m:Mt):Go.Ev.cells m.enc=[.s m.name,.i m.class_.op,.i m.class_.hd,.i m.class_.n,.sl false (ab m.class_.args),.b m.solved,.i m.value.op,.i m.value.hd,.i m.value.n,.sl false (ab m.value.args)]:=by rw [Mt.enc,mi,Cu]
@[simp] theorem SD (l:List Mt):bV 10 (ab l)=true:=eP l
@[simp] theorem PP (c:Tm):(mu c).name=⟨#[]⟩:=rfl
@[simp] theorem Nz (c:Tm):(mu c).class_=c:=rfl
@[simp] theorem KP (c:Tm):(mu c).solved=false:=rfl
@[simp] theorem NA (c:Tm):(mu c).value=tz:=rfl
theorem yK (c:Tm) (hc:c.ok) (hp:c.proper=true) (hh:cY 1 (c.nds 0) []=[]) (hs:c.smp.isSome=true) (B:Int) (hm:c.mb B=true):az TT HH [] oi [(mu c).enc,.i B] []=some (.ret (.b true),[]):=by
 rw [BF]
 have h1:=au (yJ c hc hp hh B hm) (by simp) (by simp)
 have h2:=au (kJ c hc hp) (by simp) (by simp)
 have h4:=au Ct (by simp) (by simp)
 obtain ⟨s,hs⟩:=Option.isSome_iff_exists.1 hs
 rw [hs] at h2
 obtain ⟨g1,g2,g3⟩:=iG hp hs
 have h3:=au (kF s g1) (by simp) (by simp)
 rw [g3] at h3
 have he:ByteArray.empty=⟨#[]⟩:=rfl
 simp [qy,h1,h2,h3,h4,he,aa,aD]
def NV (C:List Tm) (D O:List Bool):Sto:=[.var [.sl false (ab (C.map mu))],.var (List.replicate 80 (.b false)),.var (D.map PV.b),.var (O.map PV.b),.var [.b false],.var [.fn (.func cZ) [.ptr 3 0,.ptr 4 0,.ptr 2 0,.ptr 0 0,.ptr 5 0]]]
theorem ry {f:FuncId} {args:List PV} {r:Out} {a:Ob} {l:Sto} (h:az TT HH [] f args []=some (r,a::l)) (hb:below.belowAll 0 args=true) (hf:f<YB) (bars:List Nat) (σ:Sto):RR TT HH bars f args σ=az TT HH bars f args σ:=by
 unfold RR xcall lV
 simp only [hb,hf,decide_true,Bool.and_self,if_true,h,j9]
theorem uI (m:Mt) (bars:List Nat) (σ:Sto):az TT HH bars ki [m.enc] σ=some (.ret (.fn (.func c6) [.ptr σ.length 0]),σ++[.var (Enc.cells m)]):=by
 rw [Dp]
 simp [rY]
theorem Ad (m:Mt) (bars:List Nat) (σ:Sto):RR TT HH bars ki [m.enc] σ=some (.ret (.fn (.func c6) [.ptr σ.length 0]),σ++[.var (Enc.cells m)]):=by
 rw [ry (uI m [] []) (by simp) (by simp),uI]
theorem Fy (a:Tm):PV.agg [.s ⟨#[]⟩,.i a.op,.i a.hd,.i a.n,.sl false (ab a.args),.b false,.i tz.op,.i tz.hd,.i tz.n,.sl false (ab tz.args)]=(mu a).enc:=by simp [Mt.enc]
def ndA:IC:=(rg [al 7 z1,st 4 7 28] [5,7])
def ndB:IC:=(.block 1 (rs [ln 29 4 7,cl 30 qe [29],le 31 30,mc 32 (.i 0)] [5,30,31,32] (.block 2 (.loop eX))))
def N2 (C:List Tm) (D O:List Bool) (ext:Sto) (a:Tm) (st:Nat) (pend:Option (Option Nat)):Sto:=NV C D O++(ext++[Ob.var (Enc.cells (mu a)),Ob.loop [(5,.ptr 5 0)] [28] ndA ndB st pend])
theorem PQ (a:Tm) (b:List Nat) (σ:Sto) (K:KT (Out×Sto)):EK TT HH b ndA (lm [28] [a.enc] [(5,.ptr 5 0)]) σ K=K .norm [(5,.ptr 5 0),(7,.ptr σ.length 0)] (σ++[.var (Enc.cells a)]):=by
 simp only [ndA,lm]
 simp [-getElem?_pos,List.getElem?_cons_zero,List.getElem?_cons_succ,List.getElem?_nil,ak,aw,aq,ax,ay,ag,af,take_set,ae]
theorem PR (a:Tm) (ks:List Int) (hin:∀ bars σ,RR TT HH bars qe [a.enc] σ=some (.ret (.sl false (ab ks)),σ)) (e3:ks.length<9223372036854775808) (b:List Nat) (σ σ':Sto) (p:Nat) (K:KT (Out×Sto)) (hp:σ[p]? = some (.var (Enc.cells a)))
  (hlo:LO TT HH b eX ([(5,.ptr 5 0),(30,.sl false (ab ks)),(31,.i ks.length),(32,.i 0)],σ)=some (.exit 2,[],σ')):EK TT HH b ndB [(5,.ptr 5 0),(7,.ptr p 0)] σ K=K .norm [] σ':=by
 simp only [ndB]
 simp only [fK] at hp
 simp [hp,hin,e3,hlo,aa]
theorem IP {C:List Tm} (a:Tm) (ao:a.ok) (ap:a.proper=true) (O:List Bool) (ext:Sto)
  (hv:∀ k:Int,MI a k→∀ (D:List Bool) (bars:List Nat) (ext:Sto),D.length=80→∃ D':List Bool,D'.length=80∧RR TT HH bars cZ [.i k,.ptr 3 0,.ptr 4 0,.ptr 2 0,.ptr 0 0,.ptr 5 0] (NV C D O++ext)=some (.ret (.tup []),NV C D' O++ext))
  (D:List Bool) (hD:D.length=80) (bars:List Nat) :
  ∃ D':List Bool,D'.length=80∧RR TT HH bars (YB+(6+(ext.length+1))) [a.enc] (N2 C D O ext a 0 none)=some (.ret (.b true),N2 C D' O ext a 0 none):=by
 obtain ⟨L,hLe⟩:∃ L:Nat,L=6:=⟨_,rfl⟩
 have hL:∀ D O,(NV C D O).length=L:=fun D O=>by rw [hLe]; rfl
 have l5:5<L:=by omega
 have l5j:∀ j,5<L+j:=fun j=>by omega
 have g5:∀ D O,(NV C D O)[5]? = some (.var [.fn (.func cZ) [.ptr 3 0,.ptr 4 0,.ptr 2 0,.ptr 0 0,.ptr 5 0]]):=fun _ _=>rfl
 have hin:=au (Fx a ao ap) (by simp) (by simp)
 have hks:=Eh a
 have hkl:=Ei a ap
 generalize gp (nL a)=ks at *
 have e3:ks.length<9223372036854775808:=by omega
 rw [← hLe]
 have hget:∀ D st pend l,(NV C D O++(ext++[Ob.var (Enc.cells (mu a)),Ob.loop [(5,.ptr 5 0)] [28] ndA ndB st pend]++l))[L+(ext.length+1)]? = some (.loop [(5,.ptr 5 0)] [28] ndA ndB st pend):=fun D st pend l=>by
  rw [List.getElem?_append_right (by rw [hL]; omega),hL,show L+(ext.length+1) - L=ext.length+1 by omega,List.append_assoc,List.getElem?_append_right (by omega),show ext.length+1 - ext.length=1 by omega]
  rfl
 have hget0:=fun D st pend=>hget D st pend []
 simp only [List.append_nil] at hget0
 have hset:∀ D st st' pend pend' l,(NV C D O++(ext++[Ob.var (Enc.cells (mu a)),Ob.loop [(5,.ptr 5 0)] [28] ndA ndB st pend]++l)).set (L+(ext.length+1)) (.loop [(5,.ptr 5 0)] [28] ndA ndB st' pend')=NV C D O++(ext++[Ob.var (Enc.cells (mu a)),Ob.loop [(5,.ptr 5 0)] [28] ndA ndB st' pend']++l):=fun D st st' pend pend' l=>by
  rw [List.set_append_right _ _ (by rw [hL]; omega),hL,show L+(ext.length+1) - L=ext.length+1 by omega,List.append_assoc,List.set_append_right _ _ (by omega),show ext.length+1 - ext.length=1 by omega,List.append_assoc]
  rfl
 have hset0:=fun D st st' pend pend'=>hset D st st' pend pend' []
 simp only [List.append_nil] at hset0
 have htk:∀ D (x y:Ob) l,(NV C D O++(ext++x::y::l)).take (L+(ext.length+2))=NV C D O++(ext++[x,y]):=fun D x y l=>by
  rw [show NV C D O++(ext++x::y::l)=(NV C D O++(ext++[x,y]))++l by simp]; exact List.take_left' (by simp [hL])
 have htk3:∀ D (x y z:Ob) l,(NV C D O++(ext++x::y::z::l)).take (L+(ext.length+3))=NV C D O++(ext++[x,y,z]):=fun D x y z l=>by
  rw [show NV C D O++(ext++x::y::z::l)=(NV C D O++(ext++[x,y,z]))++l by simp]; exact List.take_left' (by simp [hL])
 have hlo:=gJ (T:=TT) (H:=HH) (b:=(L+(ext.length+2))::bars) (A:=eX) ks
  (fun i (D:List Bool)=>([(5,.ptr 5 0),(30,.sl false (ab ks)),(31,.i ks.length),(32,.i i)],NV C D O++(ext++[Ob.var (Enc.cells (mu a)),Ob.loop [(5,.ptr 5 0)] [28] ndA ndB 1 none,.var (Enc.cells a)])))
  (fun r i D y=>∃ D':List Bool,D'.length=80∧y=(.exit 2,[],NV C D' O++(ext++[Ob.var (Enc.cells (mu a)),Ob.loop [(5,.ptr 5 0)] [28] ndA ndB 1 none,.var (Enc.cells a)])))
  (fun _ D=>D.length=80)
  (fun D hD=>by
   refine ⟨_,?_,by simp,D,hD,rfl⟩
   rw [aF]
   simp [eX,hL,htk3,l5j,Nat.add_assoc])
  (fun i x r D hx hm hd hi hD=>by
   have e1:(i:Int)<ks.length:=by omega
   have hw:IntKind.i64.wrap ((i:Int)+1)=(i:Int)+1:=ai _ (by omega) (by omega)
   obtain ⟨D',hD',hc⟩:=hv x ((hks x).1 hm) D ((L+(ext.length+3))::(L+(ext.length+2))::bars) (ext++[Ob.var (Enc.cells (mu a)),Ob.loop [(5,.ptr 5 0)] [28] ndA ndB 1 none,.var (Enc.cells a)]) hD
   refine .inr ⟨D',?_,hD',fun y hy=>hy⟩
   rw [aF]
   simp at hc
   simp [eX,e1,hx,hw,hL,l5,l5j,g5,hc,htk3,-getElem?_pos,List.getElem?_cons_zero,List.getElem?_cons_succ,List.getElem?_nil,ak,aw,aq,ax,ay,ag,af,take_set,ae,Nat.add_assoc]) 0 D (by omega) hD
 obtain ⟨y,hy,D',hD',rfl⟩:=hlo
 refine ⟨D',hD',?_⟩
 unfold N2
 rw [Nk (env:=[(5,.ptr 5 0)]) (ps:=[28]) (asg:=ndA) (bd:=ndB) (hget0 _ _ _) rfl]
 have hn:(NV C D O++(ext++[Ob.var (Enc.cells (mu a)),Ob.loop [(5,.ptr 5 0)] [28] ndA ndB 0 none])).length=L+(ext.length+2):=by simp [hL]
 rw [hn]
 rw [PQ,hn]
 have e0:∀ D st pend,NV C D O++(ext++[Ob.var (Enc.cells (mu a)),Ob.loop [(5,.ptr 5 0)] [28] ndA ndB st pend])++[.var (Enc.cells a)]=NV C D O++(ext++[Ob.var (Enc.cells (mu a)),Ob.loop [(5,.ptr 5 0)] [28] ndA ndB st pend]++[.var (Enc.cells a)]):=fun D st pend=>by simp only [List.append_assoc]
 have e1:∀ D st pend,NV C D O++(ext++[Ob.var (Enc.cells (mu a)),Ob.loop [(5,.ptr 5 0)] [28] ndA ndB st pend]++[.var (Enc.cells a)])=NV C D O++(ext++[Ob.var (Enc.cells (mu a)),Ob.loop [(5,.ptr 5 0)] [28] ndA ndB st pend,.var (Enc.cells a)]):=fun D st pend=>by simp only [List.append_assoc,List.cons_append,List.nil_append]
 rw [e0,Ni (hget _ _ _ _),hset,e1]
 have hp:(NV C D O++(ext++[Ob.var (Enc.cells (mu a)),Ob.loop [(5,.ptr 5 0)] [28] ndA ndB 1 none,.var (Enc.cells a)]))[L+(ext.length+2)]? = some (.var (Enc.cells a)):=by
  rw [List.getElem?_append_right (by rw [hL]; omega),hL,show L+(ext.length+2) - L=ext.length+2 by omega,List.getElem?_append_right (by omega),show ext.length+2 - ext.length=2 by omega]
  rfl
 rw [PR a ks hin e3 _ _ _ _ _ hp hy,← e1,Nj (hget _ _ _ _),hset,e1,htk]
theorem tk1 {l:List Bool} {n:Nat} {b:Bool} (h:l[n]? = some b):List.take 1 (List.drop n (l.map PV.b))=[.b b]:=by
 obtain ⟨hl,he⟩:=List.getElem?_eq_some_iff.1 h
 rw [List.drop_eq_getElem_cons (by simpa using hl)]
 simp [he]
theorem Ha {l:List Bool} {n:Nat} {b:Bool} (h:l[n]? = some b):l.set n b=l:=by
 obtain ⟨hl,he⟩:=List.getElem?_eq_some_iff.1 h
 rw [← he]; simp
theorem IQ {C:List Tm} (hC:CM C):∀ (n:Nat),n<C.length→∀ (D O:List Bool) (bars:List Nat) (ext:Sto),D.length=80→O.length=80→(∀ k:Nat,k≤n→O[k]? = some false) →
  ∃ D':List Bool,D'.length=80∧RR TT HH bars cZ [.i n,.ptr 3 0,.ptr 4 0,.ptr 2 0,.ptr 0 0,.ptr 5 0] (NV C D O++ext)=some (.ret (.tup []),NV C D' O++ext):=by
 intro n
 induction n using Nat.strongRecOn with
 | _ n IH =>
 intro hn D O bars ext hD hO ho
 have h80:=hC.len
 obtain ⟨L,hLe⟩:∃ L:Nat,L=6:=⟨_,rfl⟩
 have hL:∀ D O,(NV C D O).length=L:=fun D O=>by rw [hLe]; rfl
 have l0:0<L:=by omega
 have l2:2<L:=by omega
 have l3:3<L:=by omega
 have l4:4<L:=by omega
 have l5:5<L:=by omega
 have g0:∀ D O,(NV C D O)[0]? = some (.var [.sl false (ab (C.map mu))]):=fun _ _=>rfl
 have g2:∀ D O,(NV C D O)[2]? = some (.var (D.map PV.b)):=fun _ _=>rfl
 have g3:∀ D O,(NV C D O)[3]? = some (.var (O.map PV.b)):=fun _ _=>rfl
 have g5:∀ D O,(NV C D O)[5]? = some (.var [.fn (.func cZ) [.ptr 3 0,.ptr 4 0,.ptr 2 0,.ptr 0 0,.ptr 5 0]]):=fun _ _=>rfl
 have s2:∀ D O D',(NV C D O).set 2 (.var (D'.map PV.b))=NV C D' O:=fun _ _ _=>rfl
 have s3:∀ D O O',(NV C D O).set 3 (.var (O'.map PV.b))=NV C D O':=fun _ _ _=>rfl
 have htk:∀ D O l,(NV C D O++(ext++l)).take (L+ext.length)=NV C D O++ext:=fun D O l=>by rw [← List.append_assoc]; exact List.take_left' (by simp [hL])
 have n80:(n:Int)<80:=by omega
 have n80':n<80:=by omega
 obtain ⟨a,ha,hga,ao,ap,ah,as_,am⟩:=uF hC (n:=(n:Int)) (by omega) (by omega)
 simp only [Int.toNat_natCast] at ha hga
 have hon:=ho n (Nat.le_refl _)
 obtain ⟨d,hd⟩:∃ d,D[n]? = some d:=⟨D[n],List.getElem?_eq_getElem (by omega)⟩
 have hto:=tk1 hon
 have htd:=tk1 hd
 have hlO:n+1≤O.length:=by omega
 have hlD:n+1≤D.length:=by omega
 have htk0:∀ D O,(NV C D O++ext).take (L+ext.length)=NV C D O++ext:=fun D O=>List.take_of_length_le (by simp [hL])
 cases d with
 | true =>
  refine ⟨D,hD,?_⟩
  rw [aX (by simp) (by simp),tA]
  simp [lK,hL,l0,l2,l3,l4,l5,g0,g2,g3,g5,hon,hd,hto,htd,hlO,hlD,n80,n80',htk,htk0,-getElem?_pos,List.getElem?_cons_zero,List.getElem?_cons_succ,List.getElem?_nil,ak,aw,aq,ax,ay,ag,af,take_set,ae,Nat.add_assoc]
 | false =>
  have hset:∀ (b:Bool) (l:List Bool),n<l.length→List.take n (l.map PV.b)++PV.b b::List.drop (n+1) (l.map PV.b)=(l.set n b).map PV.b:=fun b l hl=>by
   rw [List.set_eq_take_append_cons_drop,if_pos hl]; simp
  have hxm:((C.map mu)[n]?)=some (mu a):=by rw [List.getElem?_map,ha]; rfl
  have nC:(n:Int)<C.length:=by omega
  rw [show (∃ D':List Bool,D'.length=80∧RR TT HH bars cZ [.i n,.ptr 3 0,.ptr 4 0,.ptr 2 0,.ptr 0 0,.ptr 5 0] (NV C D O++ext)=some (.ret (.tup []),NV C D' O++ext))=(∃ D':List Bool,D'.length=80∧az TT HH bars cZ [.i n,.ptr 3 0,.ptr 4 0,.ptr 2 0,.ptr 0 0,.ptr 5 0] (NV C D O++ext)=some (.ret (.tup []),NV C D' O++ext)) from by rw [aX (by simp) (by simp)]]
  rw [tA]
  obtain ⟨O',hO'⟩:∃ O',O'=O.set n true:=⟨_,rfl⟩
  have hO'l:O'.length=80:=by rw [hO']; simpa using hO
  have hs1:List.take n (O.map PV.b)++PV.b true::List.drop (n+1) (O.map PV.b)=O'.map PV.b:=by rw [hO']; exact hset true O (by omega)
  have hs2:List.take n (O'.map PV.b)++PV.b false::List.drop (n+1) (O'.map PV.b)=O.map PV.b:=by
   rw [hset false O' (by omega),hO',List.set_set,Ha hon]
  have ho':∀ k:Nat,k<n→O'[k]? = some false:=fun k hk=>by
   rw [hO',List.getElem?_set_ne (by omega)]; exact ho k (by omega)
  have hlO':n+1≤O'.length:=by omega
  have hpar:∀ bars,RR TT HH bars ki [(mu a).enc] (NV C D O'++ext)=some (.ret (.fn (.func c6) [.ptr (L+ext.length) 0]),NV C D O'++(ext++[.var (Enc.cells (mu a))])):=fun bars=>by
   rw [Ad,List.append_assoc,List.length_append,hL]
  have hO2:n<O.length:=by omega
  obtain ⟨D1,hD1,hround⟩:=IP a ao ap O' ext (fun k hk D bars ext hD=>by
   obtain ⟨x,hx,hv⟩:=hk
   have hlt:=xf (ar ap) (by omega) am hx hv
   obtain ⟨D',h1,h2⟩:=IH k.toNat (by omega) (by omega) D O' bars ext hD hO'l (fun j hj=>ho' j (by omega))
   rw [show ((k.toNat:Nat):Int)=k by omega] at h2
   exact ⟨D',h1,h2⟩) D hD ((L+(ext.length+2))::(L+ext.length)::bars)
  rw [← hLe] at hround
  have hN2:∀ D st pend,(N2 C D O' ext a st pend).length=L+(ext.length+2):=fun D st pend=>by simp [N2,hL]
  have hpm:∀ D st pend,(N2 C D O' ext a st pend)[L+ext.length]? = some (.var (Enc.cells (mu a))):=fun D st pend=>by
   unfold N2
   rw [List.getElem?_append_right (by rw [hL]; omega),hL,show L+ext.length - L=ext.length by omega,List.getElem?_append_right (by omega),Nat.sub_self]
   rfl
  have hpm:=fun D st pend=>(hpm D st pend).trans (congrArg (fun x=>some (Ob.var x)) (Cu (mu a)))
  have htN:∀ D st pend,(N2 C D O' ext a st pend).take (L+(ext.length+2))=N2 C D O' ext a st pend:=fun D st pend=>List.take_of_length_le (by rw [hN2]; exact Nat.le_refl _)
  have lN:L+ext.length<L+(ext.length+2):=by omega
  have hr0:RR TT HH ((L+ext.length)::bars) c6 [.yld (L+(ext.length+1)),.ptr (L+ext.length) 0] (N2 C D O' ext a 0 none)=some (.ret (.tup []),N2 C D1 O' ext a 0 none):=by
   rw [aX (by simp) (by simp),zT]
   simp [pp,hN2,hpm,htN,hround,aa,-getElem?_pos,List.getElem?_cons_zero,List.getElem?_cons_succ,List.getElem?_nil,ak,aw,aq,ax,ay,ag,af,take_set,ae]
  have hlen1:(NV C D O'++(ext++[Ob.var (Enc.cells (mu a))])).length=L+(ext.length+1):=by simp [hL]
  have hr1:RR TT HH ((L+ext.length)::bars) c6 [.yld (NV C D O'++(ext++[Ob.var (Enc.cells (mu a))])).length,.ptr (L+ext.length) 0] ((NV C D O'++(ext++[Ob.var (Enc.cells (mu a))]))++[.loop [(5,.ptr 5 0)] [28] ndA ndB 0 none])=some (.ret (.tup []),N2 C D1 O' ext a 0 none):=by
   rw [hlen1,show (NV C D O'++(ext++[Ob.var (Enc.cells (mu a))]))++[.loop [(5,.ptr 5 0)] [28] ndA ndB 0 none]=N2 C D O' ext a 0 none by simp [N2]]
   exact hr0
  have hl1:(N2 C D1 O' ext a 0 none)[(NV C D O'++(ext++[Ob.var (Enc.cells (mu a))])).length]? = some (.loop [(5,.ptr 5 0)] [28] ndA ndB 0 none):=by
   rw [hlen1]
   unfold N2
   rw [List.getElem?_append_right (by rw [hL]; omega),hL,show L+(ext.length+1) - L=ext.length+1 by omega,List.getElem?_append_right (by omega),show ext.length+1 - ext.length=1 by omega]
   rfl
  have hse1:(N2 C D1 O' ext a 0 none).set (NV C D O'++(ext++[Ob.var (Enc.cells (mu a))])).length (.loop [(5,.ptr 5 0)] [28] ndA ndB 3 none)=NV C D1 O'++(ext++[Ob.var (Enc.cells (mu a)),.loop [(5,.ptr 5 0)] [28] ndA ndB 3 none]):=by
   rw [hlen1]
   unfold N2
   rw [List.set_append_right _ _ (by rw [hL]; omega),hL,show L+(ext.length+1) - L=ext.length+1 by omega,List.set_append_right _ _ (by omega),show ext.length+1 - ext.length=1 by omega]
   rfl
  obtain ⟨D2,hD2⟩:∃ D2,D2=D1.set n true:=⟨_,rfl⟩
  have hs3:List.take n (D1.map PV.b)++PV.b true::List.drop (n+1) (D1.map PV.b)=D2.map PV.b:=by rw [hD2]; exact hset true D1 (by omega)
  have hl3:n+1≤D1.length:=by omega
  have hl4:n<D1.length:=by omega
  have hl5:n<O'.length:=by omega
  refine ⟨D2,by rw [hD2]; simpa using hD1,?_⟩
  have fin:∀ (X:IC) (K:KT (Out×Sto)),EK TT HH ((L+ext.length)::bars) (.rfunc (.t 27) [28] [5] ndA ndB) [(0,.i n),(1,.ptr 3 0),(3,.ptr 2 0),(5,.ptr 5 0),(27,.fn (.func c6) [.ptr (L+ext.length) 0])] (NV C D O'++(ext++[Ob.var (Enc.cells (mu a))])) K=K .norm [(0,.i n),(1,.ptr 3 0),(3,.ptr 2 0),(5,.ptr 5 0),(27,.fn (.func c6) [.ptr (L+ext.length) 0])] (NV C D1 O'++(ext++[Ob.var (Enc.cells (mu a)),.loop [(5,.ptr 5 0)] [28] ndA ndB 3 none])):=fun X K=>by
   refine (AE (g:=c6) (cap:=[.ptr (L+ext.length) 0]) rfl (by simp) hr1 hl1 rfl).trans ?_
   rw [hse1]
  simp [lK,hL,l0,l2,l3,l4,l5,g0,g2,g3,g5,s2,s3,hon,hd,hto,htd,hlO,hlD,n80,n80',nC,htk,hs1,hO2,hxm,Fy,hpar,-getElem?_pos,List.getElem?_cons_zero,List.getElem?_cons_succ,List.getElem?_nil,ak,aw,aq,ax,ay,ag,af,take_set,ae,Nat.add_assoc]
  simp only [Cu,PP,Nz,KP,NA] at fin
  refine (fin .skip _).trans ?_
  simp [hL,l2,l3,g2,g3,s2,s3,hs2,hs3,hl3,hl4,hl5,hlO',n80,n80',htk,-getElem?_pos,List.getElem?_cons_zero,List.getElem?_cons_succ,List.getElem?_nil,ak,aw,aq,ax,ay,ag,af,take_set,ae,Nat.add_assoc]
end Go.Ev

namespace Go.Ev
theorem uJ (n:Nat):∀ D:List Bool,below.belowAll n (D.map PV.b)=true
 | []=>by simp
 | a::r=>by simp [uJ n r]
theorem wh:∀ D:List Bool,norm.normAll (D.map PV.b)=D.map PV.b
 | []=>rfl
 | a::r=>by rw [List.map_cons,norm.normAll,wh r]; rfl
def F80:List Bool:=List.replicate 80 false
theorem KQ {C:List Tm} (hC:CM C) (nums:List Int) (hn:∀ n∈nums,0≤n∧n<C.length) (hl:nums.length≤4000) :
  ∃ D:List Bool,D.length=80∧LO TT HH [0] jb ([(4,.ptr 1 0),(6,.ptr 2 0),(8,.ptr 4 0),(9,.ptr 5 0),(13,.sl false (ab nums)),(14,.i nums.length),(15,.i 0)],NV C F80 F80)=some (.exit 0,[(4,.ptr 1 0),(6,.ptr 2 0),(8,.ptr 4 0)],NV C D F80):=by
 have g5:∀ D O,(NV C D O)[5]? = some (.var [.fn (.func cZ) [.ptr 3 0,.ptr 4 0,.ptr 2 0,.ptr 0 0,.ptr 5 0]]):=fun _ _=>rfl
 have hL:∀ D O,(NV C D O).length=6:=fun _ _=>rfl
 have htk:∀ D O,(NV C D O).take 6=NV C D O:=fun _ _=>rfl
 have hlo:=gJ (T:=TT) (H:=HH) (b:=[0]) (A:=jb) nums
  (fun i (D:List Bool)=>([(4,.ptr 1 0),(6,.ptr 2 0),(8,.ptr 4 0),(9,.ptr 5 0),(13,.sl false (ab nums)),(14,.i nums.length),(15,.i i)],NV C D F80))
  (fun r i D y=>∃ D':List Bool,D'.length=80∧y=(.exit 0,[(4,.ptr 1 0),(6,.ptr 2 0),(8,.ptr 4 0)],NV C D' F80))
  (fun _ D=>D.length=80)
  (fun D hD=>by
   refine ⟨_,?_,by simp,D,hD,rfl⟩
   rw [aF]
   simp [jb,hL,htk])
  (fun i x r D hx hm hd hi hD=>by
   have e1:(i:Int)<nums.length:=by omega
   have hw:IntKind.i64.wrap ((i:Int)+1)=(i:Int)+1:=ai _ (by omega) (by omega)
   obtain ⟨x0,x1⟩:=hn x hm
   obtain ⟨D',hD',hc⟩:=IQ hC x.toNat (by omega) D F80 [6,0] [] hD rfl (fun k hk=>by have:=hC.len; unfold F80; rw [List.getElem?_replicate,if_pos (by omega)])
   rw [show ((x.toNat:Nat):Int)=x by omega] at hc
   simp only [List.append_nil] at hc
   refine .inr ⟨D',?_,hD',fun y hy=>hy⟩
   rw [aF]
   simp [jb,e1,hx,hw,hL,g5,hc,htk,-getElem?_pos,List.getElem?_cons_zero,List.getElem?_cons_succ,List.getElem?_nil,ak,aw,aq,ax,ay,ag,af,take_set,ae]) 0 F80 (by omega) rfl
 obtain ⟨y,hy,D,hD,rfl⟩:=hlo
 exact ⟨D,hD,by simpa using hy⟩
theorem Ae {C:List Tm} (hC:CM C) (nums:List Int) (hn:∀ n∈nums,0≤n∧n<C.length) (hl:nums.length≤4000) (a b:Bool) :
  ∃ D:List Bool,D.length=80∧az TT HH [] ke [.sl false (ab (C.map mu)),.sl false (ab nums)] []=some (.ret (.tup [.agg (D.map PV.b),.b false]),[]):=by
 obtain ⟨D,hD,hlo⟩:=KQ hC nums hn hl
 refine ⟨D,hD,?_⟩
 rw [De]
 have e3:nums.length<9223372036854775808:=by omega
 have ht:List.take 80 (D.map PV.b)=D.map PV.b:=List.take_of_length_le (by simp; omega)
 have hb:=fun n=>uJ n D
 have hnm:=wh D
 have hlD:(D.map PV.b).length=80:=by simpa using hD
 simp [NV,F80,List.replicate] at hlo
 simp [rS,e3,aj,hlo,hD,ht,hb,hnm]
theorem lU {C:List Tm} (hC:CM C) (a:Bool):az TT HH [] ft [.sl a (ab (C.map mu))] []=some (.ret (.i 0),[]):=by
 rw [C3]
 have h80:=hC.len
 have e3:C.length<9223372036854775808:=by omega
 have e4:¬ (80:Int)<C.length:=by omega
 have he:ByteArray.empty=⟨#[]⟩:=rfl
 have hlo:=gJ (T:=TT) (H:=HH) (b:=[0]) (A:=ja) C
  (fun i (s:List (Value×PV)×List Int)=>([(0,.sl false (ab (C.map mu))),(3,.map 0),(4,.ow 1 s.2.length (ab s.2)),(13,.sl false (ab (C.map mu))),(14,.i C.length),(15,.i i)],[.mp s.1,.tok 1 s.2.length]))
  (fun r i s y=>∃ (m:List (Value×PV)) (l:List Int),l.length≤80∧(∀ n∈l,0≤n∧n<(C.length:Int))∧y=(.exit 0,[(0,.sl false (ab (C.map mu))),(4,.ow 1 l.length (ab l))],[.mp m,.tok 1 l.length]))
  (fun i s=>(s.1=[]∨s.1=[(.string ⟨#[]⟩,.b true)])∧s.2.length=i∧∀ n∈s.2,0≤n∧n<(C.length:Int))
  (fun s ⟨h1,h2,h3⟩=>by
   refine ⟨_,?_,by simp,s.1,s.2,by omega,h3,rfl⟩
   rw [aF]
   simp [ja])
  (fun i x r s hx hm hd hi ⟨h1,h2,h3⟩=>by
   obtain ⟨m,l⟩:=s
   simp only at h1 h2 h3
   have e1:(i:Int)<C.length:=by omega
   have hw:IntKind.i64.wrap ((i:Int)+1)=(i:Int)+1:=ai _ (by omega) (by omega)
   obtain ⟨xo,xp,xh,xs,xm⟩:=hC.at_ i x hx
   have hf:=au (yK x xo xp xh xs C.length (oL (by omega) x xm)) (by simp) (by simp)
   have hl1:l.length+1≤LIM:=by unfold LIM; omega
   refine .inr ⟨([(.string ⟨#[]⟩,.b true)],l++[(i:Int)]),?_,⟨.inr rfl,by simp [h2],fun n hn=>?_⟩,fun y hy=>hy⟩
   ·rw [aF]
    rcases h1 with rfl|rfl
    ·simp [ja,e1,e3,hx,hw,hf,hl1,Fy,aj,he,rE,mE]
    ·simp [ja,e1,e3,hx,hw,hf,hl1,Fy,aj,he,rE,mE]
   ·rcases List.mem_append.1 hn with hn|hn
    ·exact h3 n hn
    ·simp at hn; subst hn; omega) 0 ([],[]) (by omega) ⟨.inl rfl,rfl,by simp⟩
 obtain ⟨y,hy,m,l,hl,hn,rfl⟩:=hlo
 obtain ⟨D,hD,hneed⟩:=Ae hC l hn (by omega) false false
 have hnd:∀ σ,RR TT HH [0] ke [.sl false (ab (C.map mu)),.ow 1 l.length (ab l)] σ=some (.ret (.tup [.agg (D.map PV.b),.b false]),σ):=fun σ=>by
  refine kH ?_ (by simp) (by simp) (by simp) [0] σ
  rw [← hneed]
  simp
 have hb:=fun n=>uJ n D
 have hnm:=wh D
 simp at hy
 simp [rN,e3,e4,hy,hnd,aj,hD,hb,hnm]
end Go.Ev

namespace Go.Ev
theorem IR {C:List Tm} {i:Nat} {x:Tm} (h:C[i]? = some x):(C.map mu)[i]? = some (mu x):=by rw [List.getElem?_map,h]; rfl
set_option maxHeartbeats 1000000 in
theorem Dw (C:List Tm) (m r:Nat):∀ t:Tm,t.ok→t.proper=true→t.mb C.length=true→∀ (bars:List Nat) (σ:Sto),σ[r]? = some (.var [.sl false (ab (C.map mu)),.map m])→(∀ y∈bars,y≤σ.length) →
  az TT HH bars bL [.ptr r 0,t.enc] σ=some (.ret (.tup [t.enc,.i 0]),σ) :=
 Tm.ind fun t ih hok hp hm bars σ hσ hbr=>by
  rw [tP]
  have e3:=ml hok.len
  have hrl:r<σ.length:=bE hσ
  have hrl1:∀ j,r<σ.length+j:=fun j=>by omega
  have hn:=aI hp
  have hne:=en t
  have hal:=eG t.args
  have hB:∀ j x,aj bars (σ.length+j) x=true:=fun j x=>dq x fun b hb=>by have:=hbr b hb; omega
  have tk0:∀ (l:Sto),(σ++l).take σ.length=σ:=fun l=>List.take_left
  have hsh:=fw (ar hp)
  have hmb:=hm
  rw [nK,Bool.and_eq_true] at hmb
  have hlo:=be (T:=TT) (H:=HH) (b:=σ.length::bars) (A:=eY) t.args
   (fun i (l:List Tm)=>([(0,.ptr r 0),(3,.ptr σ.length 0),(4,.ptr (σ.length+1) 0),(6,.ptr (σ.length+3) 0),(23,.sl false (ab t.args)),(24,.i t.args.length),(25,.i i)],σ++[.var (Enc.cells t),.var [.i 0,.i 0,.i 0,.ow (σ.length+2) 0 []],.tok 4 0,.var [.i t.op,.i t.hd,.i t.n,.ow (σ.length+4) l.length (ab l)],.tok 4 l.length]))
   (fun r' i l=>(.exit 0,[(0,.ptr r 0),(3,.ptr σ.length 0),(4,.ptr (σ.length+1) 0),(6,.ptr (σ.length+3) 0)],σ++[.var (Enc.cells t),.var [.i 0,.i 0,.i 0,.ow (σ.length+2) 0 []],.tok 4 0,.var [.i t.op,.i t.hd,.i t.n,.ow (σ.length+4) (l++r').length (ab (l++r'))],.tok 4 (l++r').length]))
   (fun i l=>l.length=i)
   (fun l _=>by
    have tk:∀ (a b c d e:Ob),(σ++[a,b,c,d,e]).take (σ.length+5)=σ++[a,b,c,d,e]:=fun a b c d e=>by rw [af]; rfl
    rw [aF]
    simp [eY,tk,hrl1])
   (fun i x r' l hx hmm hd hi hl=>by
    have e1:(i:Int)<t.args.length:=by omega
    have hw:IntKind.i64.wrap ((i:Int)+1)=(i:Int)+1:=ai _ (by omega) (by omega)
    have tk:∀ (a b c d e:Ob) (l:Sto),(σ++a::b::c::d::e::l).take (σ.length+5)=σ++[a,b,c,d,e]:=fun a b c d e l=>by rw [af]; rfl
    have hl1:l.length+1≤LIM:=by unfold LIM; omega
    have hc:∀ e0 e1 e2 e3 e4 e5,RR TT HH ((σ.length+5)::σ.length::bars) bL [.ptr r 0,x.enc] (σ++[e0,e1,e2,e3,e4,e5])=some (.ret (.tup [x.enc,.i 0]),σ++[e0,e1,e2,e3,e4,e5]):=fun e0 e1 e2 e3 e4 e5=>by
     rw [aX (by simp) (by simp),ih x hmm (hok.sub x hmm) (aR hp hmm) (mbL_mem.1 hmb.2 x hmm) _ _ (by rw [ak _ hrl]; exact hσ) (fun y hy=>by
      simp only [List.mem_cons] at hy
      simp only [List.length_append,List.length_cons,List.length_nil]
      rcases hy with rfl|rfl|hy
      ·omega
      ·omega
      ·have:=hbr y hy; omega)]
    refine .inr ⟨l++[x],?_,by simp [hl],by simp⟩
    rw [aF]
    clear ih
    simp [eY,e1,hx,hc,hw,hl1,tk,aa,hrl,hrl1,aj,hB,-getElem?_pos,List.getElem?_cons_zero,List.getElem?_cons_succ,List.getElem?_nil,ak,aw,aq,ax,ay,ag,af,take_set,ae]) 0 [] (by omega) rfl
  clear ih
  simp at hlo
  have hck:∀ (bars:List Nat) (σ:Sto) (o:Nat),RR TT HH bars ci [.agg [.i t.op,.i t.hd,.i t.n,.ow o t.args.length (ab t.args)]] σ=some (.ret (.i 0),σ):=fun bars σ o=>by
   have:=bO t hok
   rw [hp] at this
   refine kH ?_ (by simp) (by simp) (by simp) bars σ
   rw [if_pos rfl] at this
   rw [← this]
   simp [Tm.enc]
  by_cases a1:t.op=4
  ·by_cases a2:t.hd=3
   ·have hlt:t.n<C.length:=by have:=hmb.1; simp [a1,a2] at this; omega
    have h0:=(jq hsh a1).2.2.1
    obtain ⟨a,ha,-,-⟩:=eQ (l:=C) (i:=t.n.toNat) (by omega)
    have hmu:=IR ha
    simp [a1,a2] at hlo hck
    simp [ej,e3,a1,a2,hσ,hlo,hck,ha,hlt,h0,aa,tk0,hrl,hrl1,aj,hB,-getElem?_pos,List.getElem?_cons_zero,List.getElem?_cons_succ,List.getElem?_nil,ak,aw,aq,ax,ay,ag,af,take_set,ae]
    simp [Tm.enc,a1,a2]
   ·simp [a1] at hlo hck
    simp [ej,e3,a1,a2,hσ,hlo,hck,aa,tk0,hrl,hrl1,aj,hB,-getElem?_pos,List.getElem?_cons_zero,List.getElem?_cons_succ,List.getElem?_nil,ak,aw,aq,ax,ay,ag,af,take_set,ae]
    simp [Tm.enc,a1]
  ·simp [ej,e3,a1,hσ,hlo,hck,aa,tk0,hrl,hrl1,aj,hB,-getElem?_pos,List.getElem?_cons_zero,List.getElem?_cons_succ,List.getElem?_nil,ak,aw,aq,ax,ay,ag,af,take_set,ae]
end Go.Ev

namespace Go.Ev
theorem nD (L:List Mt) (x:Tm):ab L++[[PV.s ⟨#[]⟩,PV.i x.op,PV.i x.hd,PV.i x.n,PV.sl false (ab x.args),PV.b false,PV.i 0,PV.i 0,PV.i 0,PV.sl false []]]=ab (L++[mu x]):=by
 rw [iI]; simp [aB,tz]
theorem vD (M:List Mt) (bars:List Nat) (σ:Sto):az TT HH bars mq [.sl false (ab M)] σ=some (.ret (.ptr (σ.length+1) 0),σ++[.mp [],.var [.sl false (ab M),.map σ.length]]):=by
 rw [Fd]
 simp [ta]
theorem uK (M:List Mt) (bars:List Nat) (σ:Sto):RR TT HH bars mq [.sl false (ab M)] σ=some (.ret (.ptr (σ.length+1) 0),σ++[.mp [],.var [.sl false (ab M),.map σ.length]]):=by
 rw [ry (vD M [] []) (by simp) (by simp),vD]
theorem zr (C:List Tm) (m r:Nat) (t:Tm) (h:t.ok) (hp:t.proper=true) (hm:t.mb C.length=true) (bars:List Nat) (σ:Sto) (h1:σ[r]? = some (.var [.sl false (ab (C.map mu)),.map m])) (h2:∀ y∈bars,y≤σ.length) :
  RR TT HH bars bL [.ptr r 0,t.enc] σ=some (.ret (.tup [t.enc,.i 0]),σ):=by
 rw [aX (by simp) (by simp),Dw C m r t h hp hm bars σ h1 h2]
theorem o6 (t:Tm) (h:t.ok) (hp:t.proper=true) (bars:List Nat) (σ:Sto):RR TT HH bars dh [t.enc] σ=some (.ret t.enc,σ) :=
 au (uC t h 1 (ar hp) (by omega) (by have:=aI hp; omega)) (by simp) (by simp) bars σ
theorem qO (C:List Tm) (t:Tm) (h:t.ok) (hp:t.proper=true) (hm:t.mb C.length=true):az TT HH [] d9 [.sl false (ab (C.map mu)),t.enc] []=some (.ret (.tup [t.enc,.i 0]),[]):=by
 rw [yb]
 have h1:=uK (C.map mu)
 have h2:=fun (a b c:Ob)=>zr C 2 3 t h hp hm [0] [a,b,c,.var [.sl false (ab (C.map mu)),.map 2]] rfl (by simp)
 have h3:=o6 t h hp
 simp [nT,h1,h2,h3,aa]
theorem rz {C:List Tm} (hC:CM C) (t:Tm) (h:t.ok) (hp:t.proper=true) (hm:t.mb C.length=true):az TT HH [] jM [.sl false (ab (C.map mu)),t.enc] []=some (.ret (.tup [t.enc,.i 0]),[]):=by
 rw [zD]
 have h80:=hC.len
 have e3:C.length<9223372036854775808:=by omega
 have h1:=au (lU hC false) (by simp) (by simp)
 have h2:=au (lT t h hp C.length) (by simp) (by simp)
 rw [hm] at h2
 have h3:=au (qO C t h hp hm) (by simp) (by simp)
 simp [pg,e3,h1,h2,h3,aa]
theorem Dx {C:List Tm} (hC:CM C) (a:Bool):az TT HH [] qp [.sl a (ab (C.map mu))] []=some (.ret (.tup [.sl false (ab (C.map mu)),.i 0]),[]):=by
 rw [GL]
 have h80:=hC.len
 have e3:C.length<9223372036854775808:=by omega
 have h1:=uK (C.map mu)
 have hlo:=be (T:=TT) (H:=HH) (b:=[0]) (A:=oF) C
  (fun i (l:List Tm)=>([(4,.ptr 1 0),(5,.ow 2 l.length (ab (l.map mu))),(15,.sl false (ab (C.map mu))),(16,.i C.length),(17,.i i)],[.mp [],.var [.sl false (ab (C.map mu)),.map 0],.tok 10 l.length]))
  (fun r i l=>(.exit 0,[(5,.ow 2 (l++r).length (ab ((l++r).map mu)))],[.mp [],.var [.sl false (ab (C.map mu)),.map 0],.tok 10 (l++r).length]))
  (fun i l=>l.length=i)
  (fun l _=>by
   rw [aF]
   simp [oF])
  (fun i x r l hx hm hd hi hl=>by
   have e1:(i:Int)<C.length:=by omega
   have hw:IntKind.i64.wrap ((i:Int)+1)=(i:Int)+1:=ai _ (by omega) (by omega)
   obtain ⟨xo,xp,xh,xs,xm⟩:=hC.at_ i x hx
   have h2:=fun (a b c:Ob)=>zr C 0 1 x xo xp (oL (by omega) x xm) [3,0] [a,.var [.sl false (ab (C.map mu)),.map 0],b,c] rfl (by simp)
   have h3:=o6 x xo xp
   have hl1:l.length+1≤LIM:=by unfold LIM; omega
   refine .inr ⟨l++[x],?_,by simp [hl],by simp⟩
   rw [aF]
   simp [oF,e1,hx,hw,hl1,h2,h3,aa,aj]
   exact nD _ x) 0 [] (by omega) rfl
 simp at hlo
 simp [ul,h1,hlo,e3,aj]
theorem Dy {C:List Tm} (hC:CM C) (a:Bool):az TT HH [] nP [.sl a (ab (C.map mu))] []=some (.ret (.tup [.sl false (ab (C.map mu)),.i 0]),[]):=by
 rw [GH]
 have h1:=au (lU hC false) (by simp) (by simp)
 have h2:=au (Dx hC false) (by simp) (by simp)
 simp [uh,h1,h2]
theorem py (a:Bool) (bars:List Nat) (σ:Sto):RR TT HH bars fx [.sl a []] σ=some (.ret (.sl true []),σ):=au (by
 rw [uo]
 have hlo:LO TT HH [0] dG ([(3,.sl true []),(6,.sl false []),(7,.i 0),(8,.i 0)],[])=some (.exit 0,[(3,.sl true [])],[]):=by
  rw [aP,aF]
  generalize LO TT HH [0] dG=F
  simp [dG]
 simp [m8,hlo]) (by simp) (by simp) bars σ
def cpV (σ:Sto) (i q:Nat):PV:=if i=0 then .sl true [] else .rs (σ.length+q) i 0 i
theorem PS {C:List Tm} {i:Nat} {x:Tm} (h:C[i]? = some x):C.take (i+1)=C.take i++[x]:=by
 rw [List.take_add_one,h]; rfl
theorem tG {C:List Tm} (hC:CM C) (bars:List Nat) (σ:Sto):∃ (ext:Sto) (q:Nat),az TT HH bars fx [.sl false (ab (C.map mu))] σ=some (.ret (cpV σ C.length q),σ++ext)∧(C≠[]→ext[q]? = some (.arr C.length 10 (ab (C.map mu)))):=by
 have h80:=hC.len
 have e3:C.length<9223372036854775808:=by omega
 rw [uo]
 have hlo:=gJ (T:=TT) (H:=HH) (b:=σ.length::bars) (A:=dG) C
  (fun i (s:Sto×Nat)=>([(3,cpV σ i s.2),(6,.sl false (ab (C.map mu))),(7,.i C.length),(8,.i i)],σ++s.1))
  (fun r i s y=>∃ (ext:Sto) (q:Nat),y=(.exit 0,[(3,cpV σ C.length q)],σ++ext)∧(C≠[]→ext[q]? = some (.arr C.length 10 (ab (C.map mu)))))
  (fun i s=>i≠0→s.1[s.2]? = some (.arr i 10 (ab ((C.take i).map mu))))
  (fun s hs=>by
   refine ⟨_,?_,by simp,s.1,s.2,rfl,fun h=>by have:=hs (by cases C<;>simp at h ⊢); rwa [List.take_length] at this⟩
   rw [aF]
   simp [dG])
  (fun i x r s hx hm hd hi hs=>by
   obtain ⟨ext,q⟩:=s
   simp only at hs
   have e1:(i:Int)<C.length:=by omega
   have hw:IntKind.i64.wrap ((i:Int)+1)=(i:Int)+1:=ai _ (by omega) (by omega)
   obtain ⟨xo,xp,xh,xs,xm⟩:=hC.at_ i x hx
   have h3:=o6 x xo xp
   have l1:1≤LIM:=by decide
   have hli:i+1≤LIM:=by unfold LIM; omega
   have hmin:min i C.length=i:=by omega
   have hV:ab ((C.take i).map mu)++[[PV.s ⟨#[]⟩,PV.i x.op,PV.i x.hd,PV.i x.n,PV.sl false (ab x.args),PV.b false,PV.i 0,PV.i 0,PV.i 0,PV.sl false []]]=ab ((C.take (i+1)).map mu):=by rw [nD,PS hx,List.map_append]; rfl
   by_cases h0:i=0
   ·subst h0
    have e1:0<C.length:=by omega
    have hw:IntKind.i64.wrap 1=1:=ai _ (by omega) (by omega)
    refine .inr ⟨(ext++[.var [.s ⟨#[]⟩,.i x.op,.i x.hd,.i x.n,.sl false (ab x.args),.b false,.i 0,.i 0,.i 0,.sl true []],.arr 1 10 (ab ((C.take 1).map mu))],ext.length+1),?_,fun _=>by simp [-getElem?_pos,List.getElem?_cons_zero,List.getElem?_cons_succ,List.getElem?_nil,ak,aw,aq,ax,ay,ag,af,take_set,ae],fun y hy=>hy⟩
    rw [aF]
    have hm1:min 1 C.length=1:=by omega
    simp at hV
    simp [dG,cpV,e1,hx,hw,h3,l1,hm1,hV,aa,aj,uS,-getElem?_pos,List.getElem?_cons_zero,List.getElem?_cons_succ,List.getElem?_nil,ak,aw,aq,ax,ay,ag,af,take_set,ae,Nat.add_assoc]
   ·have hs:=hs h0
    have hql:q<ext.length:=bE hs
    have hql1:∀ j,q<ext.length+j:=fun j=>by omega
    refine .inr ⟨((ext++[Ob.var [.s ⟨#[]⟩,.i x.op,.i x.hd,.i x.n,.sl false (ab x.args),.b false,.i 0,.i 0,.i 0,.sl true []]]).set q (.arr (i+1) 10 (ab ((C.take (i+1)).map mu))),q),?_,fun _=>by simp [hql,hql1,-getElem?_pos,List.getElem?_cons_zero,List.getElem?_cons_succ,List.getElem?_nil,ak,aw,aq,ax,ay,ag,af,take_set,ae],fun y hy=>hy⟩
    rw [aF]
    simp [dG,cpV,e1,hx,hw,h3,h0,hs,hql,hql1,hli,hmin,hV,aa,aj,uS,-getElem?_pos,List.getElem?_cons_zero,List.getElem?_cons_succ,List.getElem?_nil,ak,aw,aq,ax,ay,ag,af,take_set,ae,Nat.add_assoc]
    rw [List.take_take,Nat.min_self,← List.map_take,hV,List.map_take]) 0 ([],0) (by omega) (fun h=>absurd rfl h)
 obtain ⟨y,hy,ext,q,rfl,hq⟩:=hlo
 refine ⟨ext,q,?_,hq⟩
 simp [cpV] at hy
 simp [m8,e3,hy,cpV]
end Go.Ev
