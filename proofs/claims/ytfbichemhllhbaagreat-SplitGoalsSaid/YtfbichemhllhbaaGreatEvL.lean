/- The law SplitGoals returns true. -/
import Derived.Test.YtfbichemhllhbaaGreatEvJ
import Derived.Test.YtfbichemhllhbaaGreatEvK
import Derived.Test.YtfbichemhllhbaaGreatEvG
set_option linter.unnecessarySimpa false
set_option linter.unusedVariables false
set_option linter.unusedSimpArgs false
set_option linter.unusedSectionVars false
namespace Go.Ev
theorem Ar:az TT HH [] fq [dO [] []] []=some (.ret (.b true),[]):=by
 rw [CW]
 unfold dO
 simp [rJ]
def GO (C A:List Tm):Prop:=C.length≤4000∧(∀ x∈C,x.ok)∧A.length≤4000∧∀ x∈A,x.ok
theorem Hq {r:Int×List Tm×List Tm} (h:r.1=0→GO r.2.1 r.2.2):∃ C A,GO C A∧rB r=.tup [dO C A,.i r.1]:=by
 unfold rB
 by_cases he:r.1=0
 ·exact ⟨_,_,h he,by rw [if_pos he]⟩
 ·exact ⟨[],[],⟨by simp,by simp,by simp,by simp⟩,by rw [if_neg he]⟩
theorem P1 {c:Tm} (hc:c.ok) (hp:c.proper=true) (hm:c.mb 0=true) (h:(xy c).1=0):GO (xy c).2.1 (xy c).2.2:=by
 unfold xy at h ⊢
 obtain ⟨o1,o2,o3⟩:=Cm (Tm.doms 40 c).length [] [] c qN hc hp (by simpa using hm) (by simp) h
 obtain ⟨p1,p2,p3,p4⟩:=G6 o1 o2
 have:=lh 40 c
 simp at o3
 exact ⟨Nat.le_trans p3 (by omega),p1,Nat.le_trans (Nat.le_of_eq p4) (by omega),p2⟩
theorem P2 {sig:List Dc} (hs:∀ d∈sig,d.ok) {n:Int} (hk:fD sig=true) (hn:sb sig n=true) (hf:fd sig n=false) (h:(vq sig n).1=0):GO (vq sig n).2.1 (vq sig n).2.2:=by
 obtain ⟨d,hd,hm,h0,hlt,dok,dp,dm⟩:=sG hs hk hn
 have hgd:jY sig n=d.class_:=by unfold jY; rw [List.getD_eq_getElem?_getD,hd]; rfl
 obtain ⟨t1,t2,d',td,tm⟩:=I3 hk hd hf
 have hpc:=JE 40 d.class_ 1 (ar dp) (by omega) t1
 have hok:=Fu (Ft (Tm.core 40 d.class_).n (Tm.core 40 d.class_).args.length) (bv 40 d.class_) [] d.class_ qN dok dp (by simpa using dm) hpc
 unfold vq at h ⊢
 rw [hgd] at h ⊢
 generalize gm (bv 40 d.class_) [] d.class_=R at *
 by_cases he:R.1=0
 ·obtain ⟨o1,o2,o3,o4,o5⟩:=hok he
  have hargs:∀ x∈R.2.2.args,x.ok∧x.proper=true∧x.mb R.2.1.length=true:=fun x hx=>⟨o2.sub x hx,aR o3 hx,by rw [nK,Bool.and_eq_true] at o4; exact mbL_mem.1 o4.2 x hx⟩
  have hal:=eG R.2.2.args
  have hne:=en R.2.2
  have hnp:=aI o3
  obtain ⟨p1,p2,p3,p4⟩:=G6 o1 hargs
  simp only [he,ne_eq,not_true,if_false] at h ⊢
  split at h
  ·simp at h
  ·rename_i hx
   rw [if_neg hx]
   exact ⟨Nat.le_trans p3 (by omega),p1,Nat.le_trans (Nat.le_of_eq p4) (by omega),p2⟩
 ·simp [he] at h
theorem tV (sig:List Dc) (hl:sig.length≤maxLen) (hs:∀ d∈sig,d.ok) (n:Int):az TT HH [] lW [.sl false (ab sig),.i n] []=some (.ret (.b true),[]):=by
 rw [vg]
 have h1:=au (wj sig hl hs n) (by simp) (by simp)
 have h2:=au (wl sig hl hs n) (by simp) (by simp)
 have h3:=au (rA sig hl hs) (by simp) (by simp)
 have h4:=au xA (by simp) (by simp)
 have h5:=au Ar (by simp [dO]) (by simp)
 have g0:dc0=⟨ByteArray.empty,tz,0⟩:=rfl
 cases hk:fD sig with
 | false =>
  have e1:pz sig n=2:=by unfold pz; simp [hk]
  have e2:tr sig n=2:=by unfold tr; simp [e1]
  rw [hk] at h3
  simp only [e2,show ¬ ((2:Int)=0) by decide,if_false,dO] at h1
  simp only [e1,show ¬ ((2:Int)=0) by decide,if_false,dO] at h2
  simp only [dO] at h5
  simp at h1 h2 h5
  simp [de,h1,h2,h3,h4,h5]
 | true =>
  rw [hk] at h3
  obtain ⟨b,hb,hbg⟩:=yW sig hl hs
  have h6:=au hb (by simp) (by simp)
  have hA:∃ (C A:List Tm) (e:Int),RR TT HH [0] gr [.sl false (ab sig),.i n] []=some (.ret (.tup [dO C A,.i e]),[])∧∃ (C' A':List Tm) (e':Int),∀ σ,RR TT HH [0] i5 [.sl false (ab sig),.i n] σ=some (.ret (.tup [dO C' A',.i e']),σ):=by
   refine ⟨if tr sig n=0 then (if (xy (sig.getD n.toNat ⟨ByteArray.empty,tz,0⟩).class_).1=0 then (xy (sig.getD n.toNat ⟨ByteArray.empty,tz,0⟩).class_).2.1 else []) else [],if tr sig n=0 then (if (xy (sig.getD n.toNat ⟨ByteArray.empty,tz,0⟩).class_).1=0 then (xy (sig.getD n.toNat ⟨ByteArray.empty,tz,0⟩).class_).2.2 else []) else [],if tr sig n=0 then (xy (sig.getD n.toNat ⟨ByteArray.empty,tz,0⟩).class_).1 else tr sig n,?_,if pz sig n=0 then (if fd sig n then [] else if (vq sig n).1=0 then (vq sig n).2.1 else []) else [],if pz sig n=0 then (if fd sig n then [] else if (vq sig n).1=0 then (vq sig n).2.2 else []) else [],if pz sig n=0 then (if fd sig n then 22 else (vq sig n).1) else pz sig n,fun σ=>?_⟩
   ·rw [h1]; unfold rB; split<;>simp_all<;>split<;>simp_all
   ·rw [h2]; unfold rB; split<;>simp_all<;>split<;>simp_all<;>split<;>simp_all
  cases b with
  | false =>
   obtain ⟨C,A,e,a1,C',A',e',a2⟩:=hA
   simp only [dO] at a1 a2
   simp [de,a1,a2,h3,h4,h6]
  | true =>
   obtain ⟨-,hG⟩:=hbg rfl
   clear hA
   have h7:=au (qT sig hl n) (by simp) (by simp)
   cases hn:sb sig n with
   | false =>
    have e1:pz sig n=6:=by unfold pz; simp [hk,hn]
    have e2:tr sig n=6:=by unfold tr; simp [e1]
    rw [hn] at h7
    simp only [e2,show ¬ ((6:Int)=0) by decide,if_false,dO] at h1
    simp only [e1,show ¬ ((6:Int)=0) by decide,if_false,dO] at h2
    simp only [dO] at h5
    simp at h1 h2 h5
    simp [de,h1,h2,h3,h4,h5,h6,h7]
   | true =>
    rw [hn] at h7
    have e1:pz sig n=0:=by unfold pz; simp [hk,hn]
    obtain ⟨d,hd,hm,h0,hlt,dok,dp,dm⟩:=sG hs hk hn
    have hgd:sig.getD n.toNat ⟨ByteArray.empty,tz,0⟩=d:=by rw [List.getD_eq_getElem?_getD,hd]; rfl
    have h8:=au (kQ sig n d h0 hd (ar dp)) (by simp) (by simp)
    simp only [e1,if_true] at h2
    cases hf:fd sig n with
    | true =>
     have e2:tr sig n=0:=by unfold tr; simp [e1,hf]
     rw [hf] at h8
     simp only [hf,if_true] at h2
     simp only [e2,if_true,hgd] at h1
     have h9:=au (wm sig n d h0 hlt hd dok dp dm) (by simp) (by simp)
     obtain ⟨C,A,go,hgo⟩:=Hq (fun h=>P1 dok dp dm h)
     have h10:=au (tL C A go.1 go.2.1 go.2.2.1 go.2.2.2) (by simp [dO]) (by simp)
     rw [hgo] at h1 h9
     generalize (xy d.class_).1=e at *
     simp only [dO] at h1 h2 h5 h9 h10
     simp at h2 h5
     simp [de,h1,h2,h3,h4,h5,h6,h7,h8,h9,h10]
    | false =>
     have e2:tr sig n=22:=by unfold tr; simp [e1,hf]
     rw [hf] at h8
     simp only [hf,if_false,Bool.false_eq_true] at h2
     simp only [e2,show ¬ ((22:Int)=0) by decide,if_false] at h1
     have h9:=au (wn sig hl hs n hk hn hf hG) (by simp) (by simp)
     obtain ⟨C,A,go,hgo⟩:=Hq (fun h=>P2 hs hk hn hf h)
     have h10:=au (tL C A go.1 go.2.1 go.2.2.1 go.2.2.2) (by simp [dO]) (by simp)
     rw [hgo] at h2 h9
     generalize (vq sig n).1=e at *
     simp only [dO] at h1 h2 h5 h9 h10
     simp at h1 h5
     simp [de,h1,h2,h3,h4,h5,h6,h7,h8,h9,h10]
end Go.Ev

namespace Go.Ev
open Go.Proofs
theorem R8 {P:Program} {n:Nat} {a b:TypeId} {td:TypeId} (ua:P.underlying a=some (.slice td)) (ud:∀ n,wX P td Dc.ok n) (ub:P.underlying b=some (.int .i64)) :
  ∀ {pvs:List PV},HasTysV P n [a,b] pvs→∃ (l:List Dc) (m:Int),pvs=[.sl false (ab l),.i m]∧l.length≤maxLen∧(∀ d∈l,d.ok)∧I64 m
 | [p,q],⟨⟨c1,h1,e1⟩,⟨c2,h2,e2⟩,_⟩=>by
  rw [ua] at e1
  rw [ub] at e2
  simp only at e1 e2
  obtain ⟨l,rfl,hl,hok⟩:=D4 ua n (fun m _=>ud m) h1
  obtain ⟨m,rfl,hm⟩:=wY ub n _ h2
  refine ⟨l,m,?_,hl,hok,hm⟩
  simp only [List.cons.injEq,and_true] at e1
  rw [← e1]
  simp [Enc.cells] at e2
  rw [← e2]
 | [],h=>h.elim
 | [_],h=>h.2.elim
 | _::_::_::_,h=>h.2.2.elim
theorem CK (n:Nat) (pvs:List PV) (h:HasTysV Tryz.prog n [22,3] pvs):az TT HH [] 3 pvs []=some (.ret (.b true),[]):=by
 have ht:∀ n,wX Tryz.prog 39 Tm.ok n:=RG (ti:=3) (ts:=24) Tryz.underlying3 Tryz.underlying24 Tryz.underlying39 rfl rfl rfl rfl
 have hd:∀ n,wX Tryz.prog 43 Dc.ok n:=RH (ti:=3) (tn:=9) (tt:=39) Tryz.underlying3 Tryz.underlying9 ht Tryz.underlying43 rfl rfl rfl
 obtain ⟨l,m,rfl,hl,hok,hm⟩:=R8 (td:=43) Tryz.underlying22 hd Tryz.underlying3 h
 exact tV l hl hok m
end Go.Ev
