/- The reference: has, renumbered. -/
import Derived.Test.YtfbichemhllhbaaGreatEvH
import Derived.Test.YtfbichemhllhbaaGreatEvG
set_option linter.unnecessarySimpa false
set_option linter.unusedVariables false
set_option linter.unusedSimpArgs false
set_option linter.unusedSectionVars false
namespace Go.Ev
theorem Cw (l:List Int) (hl:l.length≤1000) (n:Int) (fl:Bool):az TT HH [] oT [.sl fl (ab l),.i n] []=some (.ret (.b (decide (n∈l))),[]):=by
 rw [E2]
 have e3:l.length<9223372036854775808:=by omega
 have hlo:=be (T:=TT) (H:=HH) (b:=[0]) (A:=jU) l
  (fun i (_:Unit)=>([(0,.sl false (ab l)),(1,.i n),(5,.i i)],[]))
  (fun r i _=>if n∈r then (.ret,[(4,.b true)],[]) else (.exit 0,[],[]))
  (fun i _=>True)
  (fun _ _=>by
   rw [aF]
   simp [jU,e3])
  (fun i x r _ hx hm hd hi _=>by
   have e1:(i:Int)<l.length:=by omega
   have hw:IntKind.i64.wrap ((i:Int)+1)=(i:Int)+1:=ai _ (by omega) (by omega)
   by_cases hxn:x=n
   ·subst hxn
    refine .inl ⟨?_,by simp⟩
    rw [aF]
    simp [jU,e1,e3,hx]
   ·have hnx:¬ n=x:=fun h=>hxn h.symm
    refine .inr ⟨(),?_,trivial,by simp [hnx]⟩
    rw [aF]
    simp [jU,e1,e3,hx,hw,hxn]) 0 () (by omega) trivial
 simp at hlo
 by_cases hn:n∈l
 ·rw [if_pos hn] at hlo
  simp [pW,hlo,e3,hn]
 ·rw [if_neg hn] at hlo
  simp [pW,hlo,e3,hn]
theorem Hb (n:Int):∀ (l:List Int) (i:Nat) (k:Int),l.Nodup→l[i]? = some n→sv l n k=k+i
 | [],i,k,_,h=>by simp at h
 | a::r,i,k,hn,h=>by
  unfold sv
  cases i with
  | zero=>simp at h; subst h; simp
  | succ i =>
   simp at h
   have hm:=List.mem_of_getElem? h
   have ha:¬ n=a:=fun e=>by rw [e] at hm; exact (List.nodup_cons.1 hn).1 hm
   rw [if_neg ha,Hb n r i (k+1) (List.nodup_cons.1 hn).2 h]
   push_cast; omega
mutual
theorem R3 (F:Int→Int→Int→Int→Int) (hF:∀ a b c d e,F a b c d=F a b c e):∀ (t:Tm) (b c:Int),t.mapN F b=t.mapN F c
 | .mk op hd n args,b,c=>by rw [Tm.mapN,Tm.mapN,hF op hd n b c,AI F hF args op 0 b,AI F hF args op 0 c]
theorem AI (F:Int→Int→Int→Int→Int) (hF:∀ a b c d e,F a b c d=F a b c e):∀ (l:List Tm) (op i b:Int),Tm.mapNL F op l i b=l.map (fun t=>t.mapN F 0)
 | [],_,_,_=>rfl
 | t::r,op,i,b=>by rw [Tm.mapNL,AI F hF r,List.map_cons,R3 F hF t (b+und op i) 0]
end
theorem PT (l:List Int) (t:Tm):gI l t=.mk t.op t.hd (if t.op=4∧t.hd=3 then Du l t.n else t.n) (t.args.map (gI l)):=by
 unfold gI
 rw [JA,AI _ (fun _ _ _ _ _=>rfl)]
theorem KR (l:List Int) (n:Int):Du l n=if n∈l.take l.length then sv l n 0 else n:=by rw [List.take_length]; rfl
theorem Af (l:List Int) (hl:l.length≤1000) (hnd:l.Nodup):∀ t:Tm,t.ok→t.proper=true→∀ fl:Bool,az TT HH [] dy [t.enc,.sl fl (ab l)] []=some (.ret (gI l t).enc,[]) :=
 Tm.ind fun t ih hok hp fl=>by
  rw [vi]
  have e3:=ml hok.len
  have e4:l.length<9223372036854775808:=by omega
  have hn:=aI hp
  have hne:=en t
  have hal:=eG t.args
  have hA:t.op=4→t.hd=3→LO TT HH [0] dn ([(1,.sl false (ab l)),(2,.ptr 0 0),(4,.ptr 1 0),(5,.ptr 3 0),(6,.i 0)],[.var [.i t.op,.i t.hd,.i t.n,.sl false (ab t.args)],.var [.i 0,.i 0,.i 0,.ow 2 0 []],.tok 4 0,.var [.i t.op,.i t.hd,.i t.n,.ow 4 0 []],.tok 4 0]) =
    some (.exit 0,[(1,.sl false (ab l)),(2,.ptr 0 0),(4,.ptr 1 0),(5,.ptr 3 0)],[.var [.i t.op,.i t.hd,.i t.n,.sl false (ab t.args)],.var [.i 0,.i 0,.i 0,.ow 2 0 []],.tok 4 0,.var [.i t.op,.i t.hd,.i (Du l t.n),.ow 4 0 []],.tok 4 0]):=fun a1 a2=>by
   have hlo:=be (T:=TT) (H:=HH) (b:=[0]) (A:=dn) l
    (fun i (v:Int)=>([(1,.sl false (ab l)),(2,.ptr 0 0),(4,.ptr 1 0),(5,.ptr 3 0),(6,.i i)],[.var [.i t.op,.i t.hd,.i t.n,.sl false (ab t.args)],.var [.i 0,.i 0,.i 0,.ow 2 0 []],.tok 4 0,.var [.i t.op,.i t.hd,.i v,.ow 4 0 []],.tok 4 0]))
    (fun r i v=>(.exit 0,[(1,.sl false (ab l)),(2,.ptr 0 0),(4,.ptr 1 0),(5,.ptr 3 0)],[.var [.i t.op,.i t.hd,.i t.n,.sl false (ab t.args)],.var [.i 0,.i 0,.i 0,.ow 2 0 []],.tok 4 0,.var [.i t.op,.i t.hd,.i (Du l t.n),.ow 4 0 []],.tok 4 0]))
    (fun i v=>v=if t.n∈l.take i then sv l t.n 0 else t.n)
    (fun v hv=>by
     rw [← KR] at hv
     subst hv
     rw [aF]
     simp [dn,e4])
    (fun i x r v hx hm hd hi hv=>by
     have e1:(i:Int)<l.length:=by omega
     have hw:IntKind.i64.wrap ((i:Int)+1)=(i:Int)+1:=ai _ (by omega) (by omega)
     have htk:l.take (i+1)=l.take i++[x]:=by rw [List.take_add_one,hx]; rfl
     by_cases hxn:x=t.n
     ·refine .inr ⟨i,?_,?_,rfl⟩
      ·rw [aF]
       simp [dn,e1,e4,hx,hw,hxn]
      ·rw [htk,if_pos (by simp [hxn]),Hb t.n l i 0 hnd (by rw [hx,hxn])]; omega
     ·refine .inr ⟨v,?_,?_,rfl⟩
      ·rw [aF]
       simp [dn,e1,e4,hx,hw,hxn]
      ·rw [htk,hv]
       have hnx:¬ t.n=x:=fun h=>hxn h.symm
       simp [hnx]) 0 t.n (by omega) (by simp)
   simpa using hlo
  have hB:=fun (n':Int)=>be (T:=TT) (H:=HH) (b:=[0]) (A:=gj) t.args
   (fun i (L:List Tm)=>([(1,.sl false (ab l)),(2,.ptr 0 0),(4,.ptr 1 0),(5,.ptr 3 0),(7,.i i)],[.var [.i t.op,.i t.hd,.i t.n,.sl false (ab t.args)],.var [.i 0,.i 0,.i 0,.ow 2 0 []],.tok 4 0,.var [.i t.op,.i t.hd,.i n',.ow 4 L.length (ab L)],.tok 4 L.length]))
   (fun r i L=>(.exit 2,[(4,.ptr 1 0),(5,.ptr 3 0)],[.var [.i t.op,.i t.hd,.i t.n,.sl false (ab t.args)],.var [.i 0,.i 0,.i 0,.ow 2 0 []],.tok 4 0,.var [.i t.op,.i t.hd,.i n',.ow 4 (L++r.map (gI l)).length (ab (L++r.map (gI l)))],.tok 4 (L++r.map (gI l)).length]))
   (fun i L=>L.length=i)
   (fun L _=>by
    rw [aF]
    simp [gj,e3])
   (fun i x r L hx hm hd hi hL=>by
    have e1:(i:Int)<t.args.length:=by omega
    have hw:IntKind.i64.wrap ((i:Int)+1)=(i:Int)+1:=ai _ (by omega) (by omega)
    have hc:=au (ih x hm (hok.sub x hm) (aR hp hm) false) (by simp) (by simp)
    have hl1:L.length+1≤LIM:=by unfold LIM; omega
    refine .inr ⟨L++[gI l x],?_,by simp [hL],by simp⟩
    rw [aF]
    clear ih
    simp [gj,e1,e3,hx,hw,hl1,hc,aa,aj]) 0 [] (by omega) rfl
  clear ih
  simp at hB
  rw [PT]
  by_cases a1:t.op=4
  ·by_cases a2:t.hd=3
   ·have hA:=hA a1 a2
    have hB:=hB (Du l t.n)
    simp [a1,a2] at hA hB
    simp [fo,a1,a2,hA,hB,aj,aa]
    all_goals simp [Tm.enc]
   ·have hB:=hB t.n
    simp [a1] at hB
    simp [fo,a1,a2,hB,aj,aa]
    all_goals simp [Tm.enc]
  ·have hB:=hB t.n
   simp [fo,a1,hB,aj,aa]
   all_goals simp [Tm.enc]
theorem vE {l:List Int} (hl:l.length≤1000) (hnd:l.Nodup) (t:Tm) (h:t.ok) (hp:t.proper=true) (id k:Nat) (bars:List Nat) (σ:Sto):RR TT HH bars dy [t.enc,.ow id k (ab l)] σ=some (.ret (gI l t).enc,σ):=by
 refine kH ?_ (by simp) (by simp) (by simp) bars σ
 rw [← Af l hl hnd t h hp false]
 simp
theorem Fz {l:List Int} (hl:l.length≤1000) (n:Int) (id k:Nat) (bars:List Nat) (σ:Sto):RR TT HH bars oT [.ow id k (ab l),.i n] σ=some (.ret (.b (decide (n∈l))),σ):=by
 refine kH ?_ (by simp) (by simp) (by simp) bars σ
 rw [← Cw l hl n false]
 simp
end Go.Ev

namespace Go.Ev
def NVO (C:List Tm):Ob:=.var [.sl false (ab (C.map mu)),.sl false (List.replicate C.length [.i 0]),.sl false (List.replicate C.length [.i 0,.i 0,.i 0,.sl true []]),.sl false (List.replicate C.length [.i 0])]
theorem vF (C:List Tm) (hC:C.length≤80) (fl:Bool) (bars:List Nat) (σ:Sto):az TT HH bars dU [.sl fl (ab (C.map mu))] σ=some (.ret (.ptr σ.length 0),σ++[NVO C]):=by
 rw [v6]
 have e3:C.length<9223372036854775808:=by omega
 have hl2:C.length≤LIM:=by unfold LIM; omega
 simp [l8,NVO,e3,hl2]
theorem qP (C:List Tm) (hC:C.length≤80) (fl:Bool) (bars:List Nat) (σ:Sto):RR TT HH bars dU [.sl fl (ab (C.map mu))] σ=some (.ret (.ptr σ.length 0),σ++[NVO C]):=by
 rw [ry (vF C hC fl [] []) (by simp) (by simp),vF C hC]
set_option maxHeartbeats 1000000 in
theorem NB (C:List Tm) (r:Nat) (v1 v2 v3:PV):∀ t:Tm,t.ok→t.proper=true→t.mb C.length=true→∀ (bars:List Nat) (σ:Sto),σ[r]? = some (.var [.sl false (ab (C.map mu)),v1,v2,v3])→(∀ y∈bars,y≤σ.length) →
  az TT HH bars bG [.ptr r 0,t.enc] σ=some (.ret (.tup [t.enc,.i 0]),σ) :=
 Tm.ind fun t ih hok hp hm bars σ hσ hbr=>by
  rw [sk]
  have e3:=ml hok.len
  have hrl:r<σ.length:=bE hσ
  have hrl1:∀ j,r<σ.length+j:=fun j=>by omega
  have hn:=aI hp
  have hne:=en t
  have hal:=eG t.args
  have hB:∀ j x,aj bars (σ.length+j) x=true:=fun j x=>dq x fun b hb=>by have:=hbr b hb; omega
  have tk0:∀ (l:Sto),(σ++l).take σ.length=σ:=fun l=>List.take_left
  have hsh:=fw (ar hp)
  have hmb:=hm
  rw [nK,Bool.and_eq_true] at hmb
  have hlo:=be (T:=TT) (H:=HH) (b:=σ.length::bars) (A:=ec) t.args
   (fun i (l:List Tm)=>([(0,.ptr r 0),(3,.ptr σ.length 0),(4,.ptr (σ.length+1) 0),(6,.ptr (σ.length+3) 0),(7,.i i)],σ++[.var [.i t.op,.i t.hd,.i t.n,.sl false (ab t.args)],.var [.i 0,.i 0,.i 0,.ow (σ.length+2) 0 []],.tok 4 0,.var [.i t.op,.i t.hd,.i t.n,.ow (σ.length+4) l.length (ab l)],.tok 4 l.length]))
   (fun r' i l=>(.exit 0,[(0,.ptr r 0),(3,.ptr σ.length 0),(4,.ptr (σ.length+1) 0),(6,.ptr (σ.length+3) 0)],σ++[.var [.i t.op,.i t.hd,.i t.n,.sl false (ab t.args)],.var [.i 0,.i 0,.i 0,.ow (σ.length+2) 0 []],.tok 4 0,.var [.i t.op,.i t.hd,.i t.n,.ow (σ.length+4) (l++r').length (ab (l++r'))],.tok 4 (l++r').length]))
   (fun i l=>l.length=i)
   (fun l _=>by
    have tk:∀ (a b c d e:Ob),(σ++[a,b,c,d,e]).take (σ.length+5)=σ++[a,b,c,d,e]:=fun a b c d e=>by rw [af]; rfl
    rw [aF]
    simp [ec,tk,e3,hrl1,-getElem?_pos,List.getElem?_cons_zero,List.getElem?_cons_succ,List.getElem?_nil,ak,aw,aq,ax,ay,ag,af,take_set,ae])
   (fun i x r' l hx hmm hd hi hl=>by
    have e1:(i:Int)<t.args.length:=by omega
    have hw:IntKind.i64.wrap ((i:Int)+1)=(i:Int)+1:=ai _ (by omega) (by omega)
    have tk:∀ (a b c d e:Ob) (l:Sto),(σ++a::b::c::d::e::l).take (σ.length+5)=σ++[a,b,c,d,e]:=fun a b c d e l=>by rw [af]; rfl
    have hl1:l.length+1≤LIM:=by unfold LIM; omega
    have hc:∀ e0 e1 e2 e3 e4,RR TT HH ((σ.length+5)::σ.length::bars) bG [.ptr r 0,x.enc] (σ++[e0,e1,e2,e3,e4])=some (.ret (.tup [x.enc,.i 0]),σ++[e0,e1,e2,e3,e4]):=fun e0 e1 e2 e3 e4=>by
     rw [aX (by simp) (by simp),ih x hmm (hok.sub x hmm) (aR hp hmm) (mbL_mem.1 hmb.2 x hmm) _ _ (by rw [ak _ hrl]; exact hσ) (fun y hy=>by
      simp only [List.mem_cons] at hy
      simp only [List.length_append,List.length_cons,List.length_nil]
      rcases hy with rfl|rfl|hy
      ·omega
      ·omega
      ·have:=hbr y hy; omega)]
    refine .inr ⟨l++[x],?_,by simp [hl],by simp⟩
    rw [aF]
    clear ih
    simp [ec,e1,e3,hx,hc,hw,hl1,tk,aa,hrl,hrl1,aj,hB,-getElem?_pos,List.getElem?_cons_zero,List.getElem?_cons_succ,List.getElem?_nil,ak,aw,aq,ax,ay,ag,af,take_set,ae]) 0 [] (by omega) rfl
  clear ih
  simp at hlo
  have hck:∀ (bars:List Nat) (σ:Sto) (o:Nat),RR TT HH bars bt [.agg [.i t.op,.i t.hd,.i t.n,.ow o t.args.length (ab t.args)]] σ=some (.ret (.b true),σ):=fun bars σ o=>by
   have:=bN t hok
   rw [hp] at this
   refine kH ?_ (by simp) (by simp) (by simp) bars σ
   rw [← this]
   simp [Tm.enc]
  by_cases a1:t.op=4
  ·by_cases a2:t.hd=3
   ·have hlt:t.n<C.length:=by have:=hmb.1; simp [a1,a2] at this; omega
    have h0:=(jq hsh a1).2.2.1
    obtain ⟨a,ha,-,-⟩:=eQ (l:=C) (i:=t.n.toNat) (by omega)
    have hmu:=IR ha
    simp [a1,a2] at hlo hck
    simp [dI,e3,a1,a2,hσ,hlo,hck,ha,hlt,h0,aa,tk0,hrl,hrl1,aj,hB,-getElem?_pos,List.getElem?_cons_zero,List.getElem?_cons_succ,List.getElem?_nil,ak,aw,aq,ax,ay,ag,af,take_set,ae]
    simp [Tm.enc,a1,a2]
   ·simp [a1] at hlo hck
    simp [dI,e3,a1,a2,hσ,hlo,hck,aa,tk0,hrl,hrl1,aj,hB,-getElem?_pos,List.getElem?_cons_zero,List.getElem?_cons_succ,List.getElem?_nil,ak,aw,aq,ax,ay,ag,af,take_set,ae]
    simp [Tm.enc,a1]
  ·simp [dI,e3,a1,hσ,hlo,hck,aa,tk0,hrl,hrl1,aj,hB,-getElem?_pos,List.getElem?_cons_zero,List.getElem?_cons_succ,List.getElem?_nil,ak,aw,aq,ax,ay,ag,af,take_set,ae]
theorem FA (C:List Tm) (r:Nat) (t:Tm) (h:t.ok) (hp:t.proper=true) (hm:t.mb C.length=true) (bars:List Nat) (σ:Sto) (h1:σ[r]? = some (NVO C)) (h2:∀ y∈bars,y≤σ.length) :
  RR TT HH bars bG [.ptr r 0,t.enc] σ=some (.ret (.tup [t.enc,.i 0]),σ):=by
 rw [aX (by simp) (by simp),NB C r _ _ _ t h hp hm bars σ h1 h2]
theorem qQ {C:List Tm} (hC:C.length≤80) (t:Tm) (h:t.ok) (hp:t.proper=true) (hm:t.mb C.length=true) (fl:Bool):az TT HH [] i7 [.sl fl (ab (C.map mu)),t.enc] []=some (.ret (.tup [t.enc,.i 0]),[]):=by
 rw [yf]
 have h1:=qP C hC false
 have h2:=fun (a b:Ob)=>FA C 2 t h hp hm [0] [a,b,NVO C] rfl (by simp)
 simp [nU,h1,h2,aa]
 all_goals simp [Tm.enc]
theorem tS {C:List Tm} (hC:C.length≤80) (L:List Tm) (hl:L.length≤1000) (hL:∀ x∈L,x.ok∧x.proper=true∧x.mb C.length=true) (fl f2:Bool):az TT HH [] iO [.sl fl (ab (C.map mu)),.sl f2 (ab L)] []=some (.ret (.tup [.sl false (ab L),.i 0]),[]):=by
 rw [vh]
 have e3:L.length<9223372036854775808:=by omega
 have h1:=qP C hC false
 have hlo:=be (T:=TT) (H:=HH) (b:=[0]) (A:=gi) L
  (fun i (l:List Tm)=>([(1,.sl false (ab L)),(6,.ptr 0 0),(7,.ow 1 l.length (ab l)),(14,.i L.length),(15,.i i)],[NVO C,.tok 4 l.length]))
  (fun r i l=>(.exit 0,[(7,.ow 1 (l++r).length (ab (l++r)))],[NVO C,.tok 4 (l++r).length]))
  (fun i l=>l.length=i)
  (fun l _=>by
   rw [aF]
   simp [gi])
  (fun i x r l hx hm hd hi hl=>by
   have e1:(i:Int)<L.length:=by omega
   have hw:IntKind.i64.wrap ((i:Int)+1)=(i:Int)+1:=ai _ (by omega) (by omega)
   obtain ⟨xo,xp,xm⟩:=hL x hm
   have h2:=fun (b:Ob)=>FA C 0 x xo xp xm [2,0] [NVO C,b] rfl (by simp)
   have hl1:l.length+1≤LIM:=by unfold LIM; omega
   refine .inr ⟨l++[x],?_,by simp [hl],by simp⟩
   rw [aF]
   simp [gi,e1,hx,hw,hl1,h2,aa,aj]) 0 [] (by omega) rfl
 simp at hlo
 simp [kK,h1,hlo,e3,aj]
theorem Cx {C:List Tm} (hC:CM C) (fl:Bool):az TT HH [] ra [.sl fl (ab (C.map mu))] []=some (.ret (.tup [.sl false (ab (C.map mu)),.i 0]),[]):=by
 rw [E0]
 have h80:=hC.len
 have e3:C.length<9223372036854775808:=by omega
 have h1:=qP C h80 false
 have hlo:=be (T:=TT) (H:=HH) (b:=[0]) (A:=m9) C
  (fun i (l:List Tm)=>([(4,.ptr 0 0),(5,.ow 1 l.length (ab (l.map mu))),(15,.sl false (ab (C.map mu))),(16,.i C.length),(17,.i i)],[NVO C,.tok 10 l.length]))
  (fun r i l=>(.exit 0,[(5,.ow 1 (l++r).length (ab ((l++r).map mu)))],[NVO C,.tok 10 (l++r).length]))
  (fun i l=>l.length=i)
  (fun l _=>by
   rw [aF]
   simp [m9])
  (fun i x r l hx hm hd hi hl=>by
   have e1:(i:Int)<C.length:=by omega
   have hw:IntKind.i64.wrap ((i:Int)+1)=(i:Int)+1:=ai _ (by omega) (by omega)
   obtain ⟨xo,xp,xh,xs,xm⟩:=hC.at_ i x hx
   have h2:=fun (b c:Ob)=>FA C 0 x xo xp (oL (by omega) x xm) [2,0] [NVO C,b,c] rfl (by simp)
   have hl1:l.length+1≤LIM:=by unfold LIM; omega
   refine .inr ⟨l++[x],?_,by simp [hl],by simp⟩
   rw [aF]
   simp [m9,e1,hx,hw,hl1,h2,aa,aj]
   exact nD _ x) 0 [] (by omega) rfl
 simp at hlo
 simp [sZ,h1,hlo,e3,aj]
end Go.Ev

namespace Go.Ev
def RL (σ:Sto) (v:PV) (l:List Int):Prop:=(v=.sl true []∧l=[])∨∃ id ver,v=.rs id ver 0 l.length∧σ[id]? = some (Ob.arr ver 1 (ab l))
def KV (σ σ':Sto):Prop:=σ.length≤σ'.length∧∀ (j:Nat) (cs:List PV),σ[j]? = some (Ob.var cs)→σ'[j]? = some (Ob.var cs)
theorem JM (σ:Sto):KV σ σ:=⟨Nat.le_refl _,fun _ _ h=>h⟩
theorem nE {a b c:Sto} (h:KV a b) (g:KV b c):KV a c:=⟨Nat.le_trans h.1 g.1,fun j cs hj=>g.2 j cs (h.2 j cs hj)⟩
theorem Cy (a b:Sto):KV a (a++b):=⟨by simp,fun j cs hj=>by rw [ak _ (bE hj)]; exact hj⟩
theorem R4 {σ:Sto} {v:PV} {l:List Int} (h:RL σ v l) (b:Sto):RL (σ++b) v l:=by
 rcases h with h|⟨id,ver,h1,h2⟩
 ·exact .inl h
 ·exact .inr ⟨id,ver,h1,by rw [ak _ (bE h2)]; exact h2⟩
theorem vG (l:List Int) (hl:l.length≤1000) (n:Int) (v:PV) (bars:List Nat) (σ:Sto) (h:RL σ v l):az TT HH bars oW [v,.i n] σ=some (.ret (.b (decide (n∈l))),σ):=by
 rw [Ff]
 rcases h with ⟨rfl,rfl⟩|⟨id,ver,rfl,hid⟩
 ·have hlo:LO TT HH (σ.length::bars) eV ([(1,.i n),(7,.sl false []),(8,.i 0),(9,.i 0)],σ)=some (.exit 0,[],σ):=by
   rw [aP,aF]
   generalize LO TT HH (σ.length::bars) eV=F
   simp [eV]
  simp [nv,hlo]
 ·have e3:l.length<9223372036854775808:=by omega
  have hidl:=bE hid
  have hlo:=be (T:=TT) (H:=HH) (b:=σ.length::bars) (A:=eV) l
   (fun i (_:Unit)=>([(1,.i n),(7,.rs id ver 0 l.length),(8,.i l.length),(9,.i i)],σ))
   (fun r i _=>if n∈r then (.ret,[(4,.b true)],σ) else (.exit 0,[],σ))
   (fun i _=>True)
   (fun _ _=>by
    rw [aF]
    simp [eV])
   (fun i x r _ hx hm hd hi _=>by
    have e1:(i:Int)<l.length:=by omega
    have hw:IntKind.i64.wrap ((i:Int)+1)=(i:Int)+1:=ai _ (by omega) (by omega)
    by_cases hxn:x=n
    ·subst hxn
     refine .inl ⟨?_,by simp⟩
     rw [aF]
     simp [eV,e1,hx,hid,hidl,hi,-getElem?_pos,List.getElem?_cons_zero,List.getElem?_cons_succ,List.getElem?_nil,ak,aw,aq,ax,ay,ag,af,take_set,ae]
    ·have hnx:¬ n=x:=fun h=>hxn h.symm
     refine .inr ⟨(),?_,trivial,by simp [hnx]⟩
     rw [aF]
     simp [eV,e1,hx,hw,hid,hidl,hi,hxn,-getElem?_pos,List.getElem?_cons_zero,List.getElem?_cons_succ,List.getElem?_nil,ak,aw,aq,ax,ay,ag,af,take_set,ae]) 0 () (by omega) trivial
  simp at hlo
  by_cases hn:n∈l
  ·rw [if_pos hn] at hlo
   simp [nv,hlo,e3,hn,hid]
  ·rw [if_neg hn] at hlo
   simp [nv,hlo,e3,hn,hid]
theorem FB (l:List Int) (hl:l.length≤1000) (n:Int) (v:PV) (bars:List Nat) (σ:Sto) (h:RL σ v l):RR TT HH bars oW [v,.i n] σ=some (.ret (.b (decide (n∈l))),σ):=by
 have h0:=h
 rcases h with ⟨rfl,rfl⟩|⟨id,ver,rfl,hid⟩
 ·exact au (vG [] (by simp) n _ [] [] (.inl ⟨rfl,rfl⟩)) (by simp) (by simp) bars σ
 ·rw [aX (by simp) (by simp)]
  exact vG l hl n _ bars σ h0
def NC (C:List Tm) (t:Tm) (l:List Int) (σ:Sto) (r:Option (Out×Sto)):Prop:=∃ v' σ',r=some (.ret (.tup [v',.i 0]),σ')∧RL σ' v' ((t.nds 0).foldl (gX C) l)∧KV σ σ'
theorem IS {C:List Tm} {t:Tm} {l:List Int} {v:PV} (H:∀ bars σ,RL σ v l→NC C t l σ (az TT HH bars eK [.sl false (ab (C.map mu)),t.enc,v] σ)) (bars:List Nat) (σ:Sto) (h:RL σ v l):NC C t l σ (RR TT HH bars eK [.sl false (ab (C.map mu)),t.enc,v] σ):=by
 have h0:=h
 rcases h with ⟨rfl,rfl⟩|⟨id,ver,rfl,hid⟩
 ·obtain ⟨v',σ',h1,h2,h3⟩:=H [] [] (.inl ⟨rfl,rfl⟩)
  cases σ' with
  | nil =>
   rcases h2 with ⟨rfl,h2⟩|⟨id,ver,h2,h4⟩
   ·exact ⟨_,_,au h1 (by simp) (by simp) bars σ,.inl ⟨rfl,h2⟩,JM σ⟩
   ·simp at h4
  | cons a s =>
   rw [ry h1 (by simp) (by simp)]
   exact H bars σ h0
 ·rw [aX (by simp) (by simp)]
  exact H bars σ h0
set_option maxHeartbeats 1000000 in
theorem IT {C:List Tm} (hC:CM C):∀ (B:Nat),B≤C.length→∀ (t:Tm),t.ok→t.proper=true→t.mb B=true→∀ (l:List Int) (v:PV),OL C l→∀ (bars:List Nat) (σ:Sto),RL σ v l →
  NC C t l σ (az TT HH bars eK [.sl false (ab (C.map mu)),t.enc,v] σ):=by
 intro B
 induction B using Nat.strongRecOn with
 | _ B IH =>
 intro hB
 have h80:=hC.len
 refine Tm.ind fun t ih hok hp hm l v hl bars σ hv=>?_
 have e3:=ml hok.len
 have hf:=ar hp
 have hmb:=hm
 rw [nK,Bool.and_eq_true] at hmb
 have hloop:∀ (v1:PV) (l1:List Int) (σ1:Sto),RL σ1 v1 l1→OL C l1→σ1[σ.length]? = some (Ob.var [.i t.op,.i t.hd,.i t.n,.sl false (ab t.args)])→∃ v2 σ2,LO TT HH (σ.length::bars) iu ([(0,.sl false (ab (C.map mu))),(2,v1),(4,.ptr σ.length 0),(10,.i 0)],σ1)=some (.exit 0,[(2,v2)],σ2)∧RL σ2 v2 (t.args.foldl (fun l a=>(a.nds 0).foldl (gX C) l) l1)∧KV σ1 σ2:=by
  intro v1 l1 σ1 hv1 hl1 hg
  have hlo:=gJ (T:=TT) (H:=HH) (b:=σ.length::bars) (A:=iu) t.args
   (fun i (s:PV×Sto×List Int)=>([(0,.sl false (ab (C.map mu))),(2,s.1),(4,.ptr σ.length 0),(10,.i i)],s.2.1))
   (fun r i s y=>∃ v2 σ2,y=(.exit 0,[(2,v2)],σ2)∧RL σ2 v2 (r.foldl (fun l a=>(a.nds 0).foldl (gX C) l) s.2.2)∧KV σ1 σ2)
   (fun i s=>RL s.2.1 s.1 s.2.2∧OL C s.2.2∧KV σ1 s.2.1)
   (fun s hs=>by
    obtain ⟨w,τ,m⟩:=s
    obtain ⟨q1,q2,q3⟩:=hs
    have hg':=q3.2 _ _ hg
    refine ⟨(.exit 0,[(2,w)],τ),?_,by simp,w,τ,rfl,q1,q3⟩
    rw [aF]
    simp [iu,e3,hg',-getElem?_pos,List.getElem?_cons_zero,List.getElem?_cons_succ,List.getElem?_nil,ak,aw,aq,ax,ay,ag,af,take_set,ae])
   (fun i x r s hx hmm hd hi hs=>by
    obtain ⟨w,τ,m⟩:=s
    obtain ⟨q1,q2,q3⟩:=hs
    simp only at q1 q2 q3
    have hg':=q3.2 _ _ hg
    have e1:(i:Int)<t.args.length:=by omega
    have hw:IntKind.i64.wrap ((i:Int)+1)=(i:Int)+1:=ai _ (by omega) (by omega)
    have xok:=hok.sub x hmm
    have xp:=aR hp hmm
    have xm:=mbL_mem.1 hmb.2 x hmm
    obtain ⟨w',τ',g1,g2,g3⟩:=IS (fun bars σ h=>ih x hmm xok xp xm m w q2 bars σ h) (σ.length::bars) τ q1
    refine .inr ⟨(w',τ',(x.nds 0).foldl (gX C) m),?_,⟨g2,(sC hC (x.nds 0) B m hB (fun y hy k hk=>xf (ar xp) (by omega) xm hy hk) q2).1,nE q3 g3⟩,fun y hy=>hy⟩
    rw [aF]
    clear ih IH
    simp [iu,e1,e3,hg',hx,hw,g1,aa,-getElem?_pos,List.getElem?_cons_zero,List.getElem?_cons_succ,List.getElem?_nil,ak,aw,aq,ax,ay,ag,af,take_set,ae]) 0 (v1,σ1,l1) (by omega) ⟨hv1,hl1,JM σ1⟩
  obtain ⟨y,hy,v2,σ2,rfl,h2,h3⟩:=hlo
  exact ⟨v2,σ2,by simpa using hy,by simpa using h2,h3⟩
 have hargs:(t.nds 0).foldl (gX C) l=t.args.foldl (fun l a=>(a.nds 0).foldl (gX C) l) (gX C l (t,0)):=by
  rw [qI,List.foldl_cons,KK]
 rw [BL]
 unfold NC
 rw [hargs]
 have hvA:∀ b:Sto,RL (σ++b) v l:=fun b=>R4 hv b
 have hll:l.length≤1000:=by have:=hl.len; omega
 have hhas:=fun b=>FB l hll t.n v (σ.length::bars) (σ++b) (hvA b)
 by_cases a1:t.op=4
 ·by_cases a2:t.hd=3
  ·have cD:cD 3 (t,0)=some t.n:=hval3.2 ⟨a1,a2,rfl⟩
   have hnB:0≤t.n∧t.n<B:=xf hf (by omega) hm (x:=(t,0)) (by rw [qI]; simp) cD
   by_cases hin:t.n∈l
   ·have hP:gX C l (t,0)=l:=by unfold gX; rw [cD]; simp [hin]
    rw [hP]
    obtain ⟨v2,σ2,g1,g2,g3⟩:=hloop v l (σ++[.var [.i t.op,.i t.hd,.i t.n,.sl false (ab t.args)]]) (hvA _) hl (by simp)
    refine ⟨v2,σ2,?_,g2,nE (Cy _ _) g3⟩
    clear ih IH hloop
    simp [hin] at hhas
    simp [a1,a2] at g1
    simp [fZ,a1,a2,hhas,g1,-getElem?_pos,List.getElem?_cons_zero,List.getElem?_cons_succ,List.getElem?_nil,ak,aw,aq,ax,ay,ag,af,take_set,ae]
   ·have hP:gX C l (t,0)=kC C (C.getD t.n.toNat tz) l++[t.n]:=by unfold gX; rw [cD]; simp [hin]
    obtain ⟨a,ha,hga,ao,ap,-,-,am⟩:=uF hC hnB.1 (by omega)
    have hB':t.n.toNat<B:=by omega
    have am':a.mb (t.n.toNat:Nat)=true:=by rw [show ((t.n.toNat:Nat):Int)=t.n by omega]; exact am
    have hT:kC C a l=(a.nds 0).foldl (gX C) l:=sD hC (ar ap) (by omega) (oL (by omega) a am) hl
    rw [hP,hga,hT]
    obtain ⟨v',σ',r1,r2,r3⟩:=IS (fun bars σ h=>IH t.n.toNat hB' (by omega) a ao ap am' l v hl bars σ h) (σ.length::bars) (σ++[.var [.i t.op,.i t.hd,.i t.n,.sl false (ab t.args)],.var [.i a.op,.i a.hd,.i a.n,.sl false (ab a.args)]]) (hvA _)
    have hOL:OL C ((a.nds 0).foldl (gX C) l++[t.n]):=by
     have:=(sC hC [(t,0)] B l hB (fun y hy k hk=>by simp at hy; subst hy; rw [cD] at hk; simp at hk; omega) hl).1
     simp only [List.foldl_cons,List.foldl_nil] at this
     rwa [hP,hga,hT] at this
    have hlen:=hOL.len
    generalize (a.nds 0).foldl (gX C) l=m at *
    simp only [List.length_append,List.length_cons,List.length_nil] at hlen
    have hm1:m.length+1≤LIM:=by unfold LIM; omega
    have hres:=au (qQ (by omega) a ao ap (oL (by omega) a am) false) (by simp) (by simp)
    have hg':σ'[σ.length]? = some (Ob.var [.i t.op,.i t.hd,.i t.n,.sl false (ab t.args)]):=r3.2 _ _ (by simp [-getElem?_pos,List.getElem?_cons_zero,List.getElem?_cons_succ,List.getElem?_nil,ak,aw,aq,ax,ay,ag,af,take_set,ae])
    have hlt:t.n<C.length:=by omega
    have h0:=hnB.1
    have hkk:KV σ σ':=nE (Cy _ _) r3
    rcases r2 with ⟨rfl,rfl⟩|⟨id,ver,rfl,hid⟩
    ·obtain ⟨v2,σ2,g1,g2,g3⟩:=hloop (.rs σ'.length 1 0 1) [t.n] (σ'++[.arr 1 1 [[.i t.n]]]) (.inr ⟨σ'.length,1,rfl,by simp [aB]⟩) hOL (by rw [ak _ (bE hg')]; exact hg')
     refine ⟨v2,σ2,?_,g2,nE hkk (nE (Cy _ _) g3)⟩
     clear ih IH hloop
     have l1:1≤LIM:=by decide
     simp [hin] at hhas
     simp [a1,a2] at g1 hg' r1
     simp [fZ,a1,a2,hhas,ha,hlt,h0,hres,r1,g1,hg',l1,uS,aa,-getElem?_pos,List.getElem?_cons_zero,List.getElem?_cons_succ,List.getElem?_nil,ak,aw,aq,ax,ay,ag,af,take_set,ae]
    ·have hidl:=bE hid
     have hne:σ.length≠id:=fun h=>by rw [← h] at hid; rw [hg'] at hid; simp at hid
     have hkv2:KV σ' (σ'.set id (.arr (ver+1) 1 (ab (m++[t.n])))):=⟨by simp,fun j cs hj=>by
      have:id≠j:=fun h=>by rw [h] at hid; rw [hj] at hid; simp at hid
      rw [List.getElem?_set_ne this]; exact hj⟩
     obtain ⟨v2,σ2,g1,g2,g3⟩:=hloop (.rs id (ver+1) 0 (m.length+1)) (m++[t.n]) (σ'.set id (.arr (ver+1) 1 (ab (m++[t.n])))) (.inr ⟨id,ver+1,by simp,by rw [List.getElem?_set_self hidl]⟩) hOL (hkv2.2 _ _ hg')
     refine ⟨v2,σ2,?_,g2,nE hkk (nE hkv2 g3)⟩
     clear ih IH hloop
     simp [hin] at hhas
     simp [a1,a2] at g1 hg' r1
     simp [fZ,a1,a2,hhas,ha,hlt,h0,hres,r1,g1,hg',hid,hm1,uS,aa,-getElem?_pos,List.getElem?_cons_zero,List.getElem?_cons_succ,List.getElem?_nil,ak,aw,aq,ax,ay,ag,af,take_set,ae]
  ·have hP:gX C l (t,0)=l:=by unfold gX; rw [xe (by simp [a2])]
   rw [hP]
   obtain ⟨v2,σ2,g1,g2,g3⟩:=hloop v l (σ++[.var [.i t.op,.i t.hd,.i t.n,.sl false (ab t.args)]]) (hvA _) hl (by simp)
   refine ⟨v2,σ2,?_,g2,nE (Cy _ _) g3⟩
   clear ih IH hloop
   simp [a1] at g1
   simp [fZ,a1,a2,g1,-getElem?_pos,List.getElem?_cons_zero,List.getElem?_cons_succ,List.getElem?_nil,ak,aw,aq,ax,ay,ag,af,take_set,ae]
 ·have hP:gX C l (t,0)=l:=by unfold gX; rw [xe (by simp [a1])]
  rw [hP]
  obtain ⟨v2,σ2,g1,g2,g3⟩:=hloop v l (σ++[.var [.i t.op,.i t.hd,.i t.n,.sl false (ab t.args)]]) (hvA _) hl (by simp)
  refine ⟨v2,σ2,?_,g2,nE (Cy _ _) g3⟩
  clear ih IH hloop
  simp [fZ,a1,g1,-getElem?_pos,List.getElem?_cons_zero,List.getElem?_cons_succ,List.getElem?_nil,ak,aw,aq,ax,ay,ag,af,take_set,ae]
theorem yL {C:List Tm} (hC:CM C) (t:Tm) (h:t.ok) (hp:t.proper=true) (hm:t.mb C.length=true) (fl:Bool):az TT HH [] oe [.sl fl (ab (C.map mu)),t.enc] []=some (.ret (.tup [.sl false (ab (kC C t [])),.i 0]),[]):=by
 rw [BB]
 have h80:=hC.len
 have h1:=au (qQ h80 t h hp hm false) (by simp) (by simp)
 rw [sD hC (ar hp) (by omega) hm (r0 C)]
 have h2:∀ (bars:List Nat) (σ:Sto),NC C t [] σ (RR TT HH bars eK [.sl false (ab (C.map mu)),t.enc,.sl true []] σ):=fun bars σ=>IS (fun bars σ hh=>IT hC C.length (Nat.le_refl _) t h hp hm [] _ (r0 C) bars σ hh) bars σ (.inl ⟨rfl,rfl⟩)
 obtain ⟨v',σ',g1,g2,g3⟩:=h2 [0] [.var [.i t.op,.i t.hd,.i t.n,.sl false (ab t.args)],.var [.i t.op,.i t.hd,.i t.n,.sl false (ab t.args)]]
 generalize (t.nds 0).foldl (gX C) []=m at *
 rcases g2 with ⟨rfl,rfl⟩|⟨id,ver,rfl,hid⟩
 ·simp [ne,h1,g1,aa]
 ·simp [ne,h1,g1,hid,aa]
end Go.Ev

namespace Go.Ev
theorem KS {C:List Tm} (hC:CM C) (bars:List Nat) (σ:Sto):∃ (ext:Sto) (q:Nat),RR TT HH bars fx [.sl false (ab (C.map mu))] σ=some (.ret (cpV σ C.length q),σ++ext)∧(C≠[]→ext[q]? = some (.arr C.length 10 (ab (C.map mu)))):=by
 by_cases h:C=[]
 ·subst h
  exact ⟨[],0,by rw [List.append_nil]; exact py false bars σ,fun h=>absurd rfl h⟩
 ·obtain ⟨ext,q,h1,h2⟩:=tG hC [] []
  obtain ⟨ext',q',h1',h2'⟩:=tG hC bars σ
  have hext:∃ a l,ext=a::l:=by
   have:=h2 h
   cases ext with
   | nil=>simp at this
   | cons a l=>exact ⟨a,l,rfl⟩
  obtain ⟨a,l,rfl⟩:=hext
  refine ⟨ext',q',?_,h2'⟩
  rw [ry (by rw [h1]; rfl) (by simp) (by simp),h1']
def nF (a:Tm):Int:=if cY 1 (a.nds 0) []≠[] then 27 else if a.smp=none then 22 else 0
theorem yM {C:List Tm} (hC:CM C) (c:Tm) (h:c.ok) (hp:c.proper=true):az TT HH [] oj [.sl false (ab (C.map mu)),.s ⟨#[]⟩,c.enc] []=some (.ret (.tup (if nF c=0 then [.sl false (ab ((C++[c]).map mu)),.i 0] else [.sl false [],.i (nF c)])),[]):=by
 rw [BH]
 have h1:=au (qM c h hp) (by simp) (by simp)
 have h2:=au (kJ c h hp) (by simp) (by simp)
 have hkl:(gp (li c)).length<9223372036854775808:=by
  have k1:=(D8 (c.nds 0) []).1
  rw [p9,List.length_nil] at k1
  rw [(gM _).length_eq]; have:=aI hp; unfold li; omega
 have h80:=hC.len
 unfold nF
 by_cases hh:cY 1 (c.nds 0) []=[]
 ·rw [Ej c hh] at h1
  simp at h1
  cases hs:c.smp with
  | none =>
   rw [hs] at h2
   simp [iq,h1,h2,hh,aa,aD,aj]
  | some s =>
   rw [hs] at h2
   obtain ⟨g1,g2,g3⟩:=iG hp hs
   have h3:=au (kF s g1) (by simp) (by simp)
   rw [g3] at h3
   have hcp:=KS hC [0]
   by_cases h0:C=[]
   ·subst h0
    have hcp:=py false [0]
    have l1:1≤LIM:=by decide
    simp [iq,h1,h2,h3,hh,hcp,l1,aa,aD,aj,-getElem?_pos,List.getElem?_cons_zero,List.getElem?_cons_succ,List.getElem?_nil,ak,aw,aq,ax,ay,ag,af,take_set,ae]
    exact nD [] c
   ·obtain ⟨ext,q,hc,he⟩:=hcp [.var (Enc.cells c),.var (Enc.cells s)]
    have he:=he h0
    have hql:q<ext.length:=bE he
    have hid:([Ob.var (Enc.cells c),Ob.var (Enc.cells s)]:Sto).length+q=q+2:=by simp; omega
    have hCn:C.length≠0:=by simpa using h0
    have hll:C.length+1≤LIM:=by unfold LIM; omega
    unfold cpV at hc
    rw [if_neg hCn,hid] at hc
    simp at hc
    have hmu:=nD (C.map mu) c
    simp [iq,h1,h2,h3,hh,hc,he,hql,hll,aa,aD,aj,-getElem?_pos,List.getElem?_cons_zero,List.getElem?_cons_succ,List.getElem?_nil,ak,aw,aq,ax,ay,ag,af,take_set,ae]
    rw [show List.take C.length (C.map mu)=C.map mu from List.take_of_length_le (by simp),nD,List.take_of_length_le (by simp)]
    exact ⟨zl _ _,rfl⟩
 ·have hk:=IN c hh
  have hk0:0<(gp (li c)).length:=List.length_pos_iff.2 hk
  simp [iq,h1,hkl,hk0,hh,aa,aD,aj]
end Go.Ev

namespace Go.Ev
theorem JN (bars:List Nat) (a0 a1:PV) (σ:Sto):az TT HH bars 162 [a0,a1] σ=aE TT HH EU bars [a0,a1] σ:=ES (by decide) (by kernel_rfl) (by kernel_rfl) (by decide) (by decide) bars _ σ rfl
theorem yN (bars:List Nat) (σ:Sto):RR TT HH bars bF [.sl false []] σ=some (.ret (.sl true []),σ):=au (by
 rw [uX,body,if_neg (by decide),show HH bF=some (vP 4) from by kernel_rfl]
 rfl) (by simp) (by simp) bars σ
theorem Hc (n:Nat) (h0:0<n) (h1:n≤600) (bars:List Nat) (σ:Sto):az TT HH bars 162 [.sl true [],.i n] σ=some (.ret (.rs σ.length 0 0 0),σ++[.arr 0 4 (List.replicate n [.i 0,.i 0,.i 0,.sl true []])]):=by
 have hw:∀ n:Int,0≤n→n≤1000→IntKind.i64.wrap n=n:=fun n h0 h1=>ai _ (by omega) (by omega)
 have hw0:=hw 0 (by omega) (by omega)
 have hwn:=hw n (by omega) (by omega)
 have hnn:¬ (n:Int)<0:=by omega
 have hl:n≤LIM:=by unfold LIM; omega
 rw [JN]
 simp [EU,hw0,hwn,hnn,h0,hl,-getElem?_pos,List.getElem?_cons_zero,List.getElem?_cons_succ,List.getElem?_nil,ak,aw,aq,ax,ay,ag,af,take_set,ae]
theorem PU (n:Nat) (h0:0<n) (h1:n≤600) (bars:List Nat) (σ:Sto):RR TT HH bars 162 [.sl true [],.i n] σ=some (.ret (.rs σ.length 0 0 0),σ++[.arr 0 4 (List.replicate n [.i 0,.i 0,.i 0,.sl true []])]):=by
 rw [ry (Hc n h0 h1 [] []) (by simp) (by decide),Hc n h0 h1]
theorem Hd (D:List Tm) (hl:D.length≤600):az TT HH [] cg [.sl true [[.sl false []],[.sl false (ab D)]]] []=some (.ret (.sl false (ab D)),[]):=by
 rw [mB]
 have e3:D.length<9223372036854775808:=by omega
 have hw:∀ n:Int,0≤n→n≤1000→IntKind.i64.wrap n=n:=fun n h0 h1=>ai _ (by omega) (by omega)
 have hw1:=hw 1 (by omega) (by omega)
 have hw2:=hw 2 (by omega) (by omega)
 have hw0:=hw 0 (by omega) (by omega)
 have hwD:=hw D.length (by omega) (by omega)
 have hnn:¬ (D.length:Int)<0:=by omega
 have h0:LO TT HH [0] aG ([(0,.sl false [[.sl false []],[.sl false (ab D)]]),(3,.i 0),(9,.sl false [[.sl false []],[.sl false (ab D)]]),(10,.i 2),(11,.i 0)],[])=some (.exit 0,[(0,.sl false [[.sl false []],[.sl false (ab D)]]),(3,.i D.length)],[]):=by
  have k2:LO TT HH [0] aG ([(0,.sl false [[.sl false []],[.sl false (ab D)]]),(3,.i D.length),(9,.sl false [[.sl false []],[.sl false (ab D)]]),(10,.i 2),(11,.i 2)],[])=some (.exit 0,[(0,.sl false [[.sl false []],[.sl false (ab D)]]),(3,.i D.length)],[]):=by
   rw [aP,aF]
   generalize LO TT HH [0] aG=F
   simp [aG]
  have k1:LO TT HH [0] aG ([(0,.sl false [[.sl false []],[.sl false (ab D)]]),(3,.i 0),(9,.sl false [[.sl false []],[.sl false (ab D)]]),(10,.i 2),(11,.i 1)],[])=some (.exit 0,[(0,.sl false [[.sl false []],[.sl false (ab D)]]),(3,.i D.length)],[]):=by
   rw [aP,aF]
   generalize LO TT HH [0] aG=F at k2 ⊢
   simp [aG,e3,hwD,hnn,hw2,k2]
  rw [aP,aF]
  generalize LO TT HH [0] aG=F at k1 ⊢
  simp [aG,hw0,hw1,k1]
 by_cases hD:D=[]
 ·subst hD
  simp at h0
  have hg:∀ bars σ,RR TT HH bars 162 [.sl true [],.i 0] σ=some (.ret (.sl true []),σ):=au (by
   rw [JN]
   simp [EU,hw0]) (by simp) (by decide)
  have h1:LO TT HH [0] aC ([(6,.sl true []),(25,.sl false [[.sl false []],[.sl false []]]),(26,.i 2),(27,.i 0)],[])=some (.exit 2,[(6,.sl true [])],[]):=by
   have k2:LO TT HH [0] aC ([(6,.sl true []),(25,.sl false [[.sl false []],[.sl false []]]),(26,.i 2),(27,.i 2)],[])=some (.exit 2,[(6,.sl true [])],[]):=by
    rw [aP,aF]
    generalize LO TT HH [0] aC=F
    simp [aC]
   have k1:LO TT HH [0] aC ([(6,.sl true []),(25,.sl false [[.sl false []],[.sl false []]]),(26,.i 2),(27,.i 1)],[])=some (.exit 2,[(6,.sl true [])],[]):=by
    rw [aP,aF]
    generalize LO TT HH [0] aC=F at k2 ⊢
    simp [aC,hw2,k2]
   rw [aP,aF]
   generalize LO TT HH [0] aC=F at k1 ⊢
   simp [aC,hw1,k1]
  simp [cK,h0,hg,h1]
 ·have hpos:0<D.length:=List.length_pos_iff.2 hD
  have hpos':(0:Int)<D.length:=by omega
  have hg:=PU D.length hpos hl
  have hLm:D.length≤LIM:=by unfold LIM; omega
  have h1:LO TT HH [0] aC ([(6,.rs 0 0 0 0),(25,.sl false [[.sl false []],[.sl false (ab D)]]),(26,.i 2),(27,.i 0)],[.arr 0 4 (List.replicate D.length [.i 0,.i 0,.i 0,.sl true []])])=some (.exit 2,[(6,.rs 0 1 0 D.length)],[.arr 1 4 (ab D)]):=by
   have k2:LO TT HH [0] aC ([(6,.rs 0 1 0 D.length),(25,.sl false [[.sl false []],[.sl false (ab D)]]),(26,.i 2),(27,.i 2)],[.arr 1 4 (ab D)])=some (.exit 2,[(6,.rs 0 1 0 D.length)],[.arr 1 4 (ab D)]):=by
    rw [aP,aF]
    generalize LO TT HH [0] aC=F
    simp [aC]
   have k1:LO TT HH [0] aC ([(6,.rs 0 0 0 0),(25,.sl false [[.sl false []],[.sl false (ab D)]]),(26,.i 2),(27,.i 1)],[.arr 0 4 (List.replicate D.length [.i 0,.i 0,.i 0,.sl true []])])=some (.exit 2,[(6,.rs 0 1 0 D.length)],[.arr 1 4 (ab D)]):=by
    rw [aP,aF]
    generalize LO TT HH [0] aC=F at k2 ⊢
    simp [aC,hpos,hLm,hw2,k2]
   rw [aP,aF]
   generalize LO TT HH [0] aC=F at k1 ⊢
   simp [aC,hw1,k1]
  simp [cK,h0,hg,h1]
theorem xq (bars:List Nat) (σ:Sto):az TT HH bars bP [.sl false []] σ=some (.ret (.fn (.func aS) [.ptr σ.length 0]),σ++[.var [.sl false []]]):=by
 rw [lf]
 simp [dt,-getElem?_pos,List.getElem?_cons_zero,List.getElem?_cons_succ,List.getElem?_nil,ak,aw,aq,ax,ay,ag,af,take_set,ae]
theorem He (bars:List Nat) (σ:Sto):RR TT HH bars bP [.sl false []] σ=some (.ret (.fn (.func aS) [.ptr σ.length 0]),σ++[.var [.sl false []]]):=by
 rw [ry (xq [] []) (by simp) (by simp),xq]
theorem Dz (bars:List Nat) (l p:Nat) (s:Sto) (h:s[p]? = some (.var [.sl false []])):RR TT HH bars aS [.yld l,.ptr p 0] s=some (.ret (.tup []),s):=by
 rw [aX (by simp) (by simp),ky]
 have hw:IntKind.i64.wrap (-1)=-1:=ai _ (by omega) (by omega)
 have hlo:LO TT HH (s.length::bars) bW ([(0,.yld l),(1,.ptr p 0),(3,.i (-1))],s)=some (.exit 0,[],s):=by
  rw [aP,aF]
  generalize LO TT HH (s.length::bars) bW=F
  simp [bW]
 have hpl:=bE h
 simp [db,h,hpl,hw,hlo,-getElem?_pos,List.getElem?_cons_zero,List.getElem?_cons_succ,List.getElem?_nil,ak,aw,aq,ax,ay,ag,af,take_set,ae]
theorem Cz (t:Tm) (h:t.ok) (hp:t.proper=true):az TT HH [] rh [t.enc] []=some (.ret (.tup [t.enc,.i 0]),[]):=by
 rw [Fb]
 have h1:=au (bO t h) (by simp) (by simp)
 rw [hp] at h1
 simp [s9,h1,aa]
theorem DA (t:Tm) (h:t.ok) (hp:t.proper=true):az TT HH [] re [.sl false [],t.enc] []=some (.ret (.tup [t.enc,.i 0]),[]):=by
 rw [E7]
 have h1:=au (bO t h) (by simp) (by simp)
 rw [hp] at h1
 have h2:=yN
 have h3:=o6 t h hp
 have h4:=au (Cz t h hp) (by simp) (by simp)
 have h5:=He
 have l1:1≤LIM:=by decide
 have hw1:IntKind.i64.wrap 1=1:=ai _ (by omega) (by omega)
 have hlo:LO TT HH [0] fX ([(0,.sl false []),(3,.ptr 0 0),(4,.ptr 1 0),(15,.sl false [[.i t.op,.i t.hd,.i t.n,.sl false (ab t.args)]]),(16,.i 1),(17,.i 0)],[.var [.i t.op,.i t.hd,.i t.n,.sl false (ab t.args)],.var [.i 0,.i 0,.i 0,.sl true []]])=some (.exit 0,[(0,.sl false []),(3,.ptr 0 0),(4,.ptr 1 0)],[.var [.i t.op,.i t.hd,.i t.n,.sl false (ab t.args)],.var [.i 0,.i 0,.i 0,.sl true []]]):=by
  have k1:LO TT HH [0] fX ([(0,.sl false []),(3,.ptr 0 0),(4,.ptr 1 0),(15,.sl false [[.i t.op,.i t.hd,.i t.n,.sl false (ab t.args)]]),(16,.i 1),(17,.i 1)],[.var [.i t.op,.i t.hd,.i t.n,.sl false (ab t.args)],.var [.i 0,.i 0,.i 0,.sl true []]])=some (.exit 0,[(0,.sl false []),(3,.ptr 0 0),(4,.ptr 1 0)],[.var [.i t.op,.i t.hd,.i t.n,.sl false (ab t.args)],.var [.i 0,.i 0,.i 0,.sl true []]]):=by
   rw [aP,aF]
   generalize LO TT HH [0] fX=F
   simp [fX]
  rw [aP,aF]
  generalize LO TT HH [0] fX=F at k1 ⊢
  simp [fX,h1,hw1,k1,aa]
 simp [s6,h1,h2,h3,h4,h5,l1,hlo,aa,aB]
 refine (AE (g:=aS) (cap:=[.ptr 3 0]) rfl (by simp) (Dz _ _ 3 _ rfl) rfl rfl).trans ?_
 simp [h4,aa]
end Go.Ev

namespace Go.Ev
theorem uL:∀ (D:List Tm) (L:List Sp),sw D=some L→L.length=D.length∧∀ (i:Nat) (x:Tm),D[i]? = some x→∃ s,L[i]? = some s∧x.smp=some s
 | [],L,h=>by simp [sw] at h; subst h; simp
 | a::r,L,h=>by
  unfold sw at h
  cases hs:a.smp with
  | none=>rw [hs] at h; cases h
  | some s =>
   cases hr:sw r with
   | none=>rw [hs,hr] at h; cases h
   | some q =>
    rw [hs,hr] at h
    simp at h; subst h
    obtain ⟨h1,h2⟩:=uL r q hr
    refine ⟨by simp [h1],fun i x hx=>?_⟩
    cases i with
    | zero=>simp at hx; subst hx; exact ⟨s,rfl,hs⟩
    | succ i=>simp at hx; obtain ⟨t,h3,h4⟩:=h2 i x hx; exact ⟨t,by simpa using h3,h4⟩
theorem uM:∀ (k:Nat) (t:Tm),(dz k t).proper=true→t.proper=true
 | 0,t,h=>h
 | k+1,t,h=>by
  rw [KH] at h
  exact uM k t (aR h (by simp [nH]))
theorem Hf {a:Tm} (hf:a.formed 1=true) {s:Sp} (h:a.smp=some s):sw (Tm.doms 40 a)=some s.args:=by
 rw [GY 40 a 1 hf (by omega)] at h
 split at h
 ·cases hl:sw (Tm.doms 40 a) with
  | none=>rw [hl] at h; cases h
  | some L=>rw [hl] at h; simp at h; subst h; rfl
 ·cases h
def FrS (a z c r:List PV) (nm:PV) (o:List PV) (k:Nat):Sto:=[.var [nm],.var a,.var z,.var c,.var r,.var o,.tok 4 k]
theorem IU (a z c r:List PV) (nm m:PV) (k':Nat):∀ (j:Nat) (t:Tm) (i:Nat) (k:Int),(i:Int)+j=k→k≤4000→below 0 m=true→LO TT HH [0] cG ([(9,.ptr 2 0),(13,m),(16,.ptr 5 0),(106,.i k),(107,.i i)],FrS a z c r nm [.i t.op,.i t.hd,.i t.n,.sl false (ab t.args)] k')=some (.exit 2,[(9,.ptr 2 0),(13,m),(16,.ptr 5 0)],FrS a z c r nm [.i (dz j t).op,.i (dz j t).hd,.i (dz j t).n,.sl false (ab (dz j t).args)] k'):=by
 intro j
 induction j with
 | zero =>
  intro t i k h hk hm
  rw [aP,aF]
  generalize LO TT HH [0] cG=F
  have:¬ (i:Int)<k:=by omega
  have hm7:=bk (Nat.zero_le 7) m hm
  simp [cG,FrS,this,dz,hm7]
 | succ j ih =>
  intro t i k h hk hm
  have hth:=ih (nH t) (i+1) k (by push_cast at h ⊢; omega) hk hm
  rw [aP,aF]
  generalize LO TT HH [0] cG=F at hth ⊢
  have e1:(i:Int)<k:=by omega
  have hw:IntKind.i64.wrap ((i:Int)+1)=(i:Int)+1:=ai _ (by omega) (by omega)
  have hl:=au (oM t) (by simp) (by simp)
  have hm7:=bk (Nat.zero_le 7) m hm
  push_cast at hth
  simp only [FrS] at hth ⊢
  simp [cG,e1,hw,hl,hth,hm7,aa,dz]
theorem IV (D:List Tm) (L:List Sp) (n:Int) (m:PV) (hm:below 0 m=true) (a z c r:List PV) (nm:PV) (hL:sw D=some L) (hD:∀ x∈D,x.ok∧x.proper=true) (hl:D.length≤40) :
  if (cN L D.length 0).all Tm.proper then LO TT HH [0] fh ([(9,.ptr 2 0),(13,m),(14,.sl false (ab D)),(16,.ptr 5 0),(17,.sl false (ab D)),(68,.sl false (ab D)),(69,.i D.length),(70,.i 0)],FrS a [.i 0,.i 0,.i 0,.sl true []] c r nm [.i 4,.i 3,.i n,.ow 6 0 []] 0)=some (.exit 0,[(9,.ptr 2 0),(13,m),(14,.sl false (ab D)),(16,.ptr 5 0)],FrS a [.i 0,.i 0,.i 0,.sl true []] c r nm [.i 4,.i 3,.i n,.ow 6 D.length (ab (cN L D.length 0))] D.length)
  else ∃ k l,LO TT HH [0] fh ([(9,.ptr 2 0),(13,m),(14,.sl false (ab D)),(16,.ptr 5 0),(17,.sl false (ab D)),(68,.sl false (ab D)),(69,.i D.length),(70,.i 0)],FrS a [.i 0,.i 0,.i 0,.sl true []] c r nm [.i 4,.i 3,.i n,.ow 6 0 []] 0)=some (.ret,[(8,.sl true []),(9,.ptr 2 0),(10,.i 5)],FrS a [.i 0,.i 0,.i 0,.sl true []] c r nm [.i 4,.i 3,.i n,.ow 6 k l] k):=by
 obtain ⟨hLl,hLg⟩:=uL D L hL
 have hm7:=bk (Nat.zero_le 7) m hm
 have hlo:=gJ (T:=TT) (H:=HH) (b:=[0]) (A:=fh) D
  (fun i (l:List Tm)=>([(9,.ptr 2 0),(13,m),(14,.sl false (ab D)),(16,.ptr 5 0),(17,.sl false (ab D)),(68,.sl false (ab D)),(69,.i D.length),(70,.i i)],FrS a [.i 0,.i 0,.i 0,.sl true []] c r nm [.i 4,.i 3,.i n,.ow 6 l.length (ab l)] l.length))
  (fun r' i l y=>if (cN (L.drop i) D.length i).all Tm.proper then y=(.exit 0,[(9,.ptr 2 0),(13,m),(14,.sl false (ab D)),(16,.ptr 5 0)],FrS a [.i 0,.i 0,.i 0,.sl true []] c r nm [.i 4,.i 3,.i n,.ow 6 (l++cN (L.drop i) D.length i).length (ab (l++cN (L.drop i) D.length i))] (l++cN (L.drop i) D.length i).length)
   else ∃ k l,y=(.ret,[(8,.sl true []),(9,.ptr 2 0),(10,.i 5)],FrS a [.i 0,.i 0,.i 0,.sl true []] c r nm [.i 4,.i 3,.i n,.ow 6 k l] k))
  (fun i l=>l.length=i)
  (fun l _=>by
   have hd:L.drop D.length=[]:=List.drop_eq_nil_of_le (by omega)
   refine ⟨(.exit 0,[(9,.ptr 2 0),(13,m),(14,.sl false (ab D)),(16,.ptr 5 0)],FrS a [.i 0,.i 0,.i 0,.sl true []] c r nm [.i 4,.i 3,.i n,.ow 6 l.length (ab l)] l.length),?_,by simp,by simp [hd,cN]⟩
   rw [aF]
   simp [fh,FrS,hm7])
  (fun i x r' l hx hmm hd hi hl'=>by
   have e1:(i:Int)<D.length:=by omega
   have e3:D.length<9223372036854775808:=by omega
   have hw:IntKind.i64.wrap ((i:Int)+1)=(i:Int)+1:=ai _ (by omega) (by omega)
   have hw1:IntKind.i64.wrap ((D.length:Int) - 1)=(D.length:Int) - 1:=ai _ (by omega) (by omega)
   have hw2:IntKind.i64.wrap ((D.length:Int) - 1 - i)=(D.length:Int) - 1 - i:=ai _ (by omega) (by omega)
   obtain ⟨xo,xp⟩:=hD x hmm
   obtain ⟨s,hs1,hs2⟩:=hLg i x hx
   obtain ⟨g1,g2,g3⟩:=iG xp hs2
   have hsm:=au (kJ x xo xp) (by simp) (by simp)
   rw [hs2] at hsm
   have hlg:=au (Aa s g1 g3 g2 1 ((D.length:Int) - 1 - i) (by omega) (by omega) (by omega) (by omega)) (by simp) (by simp)
   have hdr:L.drop i=s::L.drop (i+1):=by
    obtain ⟨h1,h2⟩:=List.getElem?_eq_some_iff.1 hs1
    rw [List.drop_eq_getElem_cons h1,h2]
   have hl1:l.length+1≤LIM:=by unfold LIM; omega
   have hl2:i+1≤LIM:=by unfold LIM; omega
   cases hp:(eH s 1 ((D.length:Int) - 1 - i)).proper with
   | true =>
    rw [hp] at hlg
    refine .inr ⟨l++[eH s 1 ((D.length:Int) - 1 - i)],?_,by simp [hl'],fun y hy=>?_⟩
    ·rw [aF]
     simp [fh,FrS,e1,e3,hx,hw,hw1,hw2,hsm,hlg,hl1,hm7,aa,aD,aj]
    ·rw [hdr]
     simpa [cN,hp] using hy
   | false =>
    rw [hp] at hlg
    refine .inl ⟨(.ret,[(8,.sl true []),(9,.ptr 2 0),(10,.i 5)],FrS a [.i 0,.i 0,.i 0,.sl true []] c r nm [.i 4,.i 3,.i n,.ow 6 l.length (ab l)] l.length),?_,by simp,by rw [hdr]; simp only [cN,List.all_cons,hp,Bool.false_and]; exact ⟨_,_,rfl⟩⟩
    rw [aF]
    simp [fh,FrS,e1,e3,hx,hw,hw1,hw2,hsm,hlg,hm7,aa,aD,aj]) 0 [] (by omega) rfl
 obtain ⟨y,hy,hq⟩:=hlo
 simp only [List.drop_zero,Int.natCast_zero] at hq
 have hll:(cN L D.length 0).length=D.length:=by rw [my,hLl]
 cases hp:(cN L D.length 0).all Tm.proper with
 | true =>
  rw [if_pos hp] at hq
  subst hq
  simpa [hll] using hy
 | false =>
  rw [if_neg (by rw [hp]; simp)] at hq
  obtain ⟨k,l,rfl⟩:=hq
  simp only [Bool.false_eq_true,if_false]
  exact ⟨k,l,by simpa using hy⟩
end Go.Ev

namespace Go.Ev
theorem qf (n:Nat) (a:Tm):(aK n a).1=(if 80≤n then 5 else if nF a≠0 then nF a else match a.smp with|some s=>if (eH s 3 n).proper then 0 else 5|none=>0):=by
 unfold aK nF
 by_cases h1:80≤n
 ·simp [h1]
 ·simp only [h1,if_false]
  by_cases h2:cY 1 (a.nds 0) []=[]
  ·cases hs:a.smp with
   | none=>simp [h2]
   | some s=>by_cases h3:(eH s 3 n).proper=true<;>simp [h2,h3]
  ·simp [h2]
theorem mz {n:Nat} {a:Tm} (h:(aK n a).1≠0):(aK n a).2=tz:=by
 unfold aK at h ⊢
 by_cases h1:80≤n
 ·simp [h1]
 ·simp only [h1,if_false] at h ⊢
  by_cases h2:cY 1 (a.nds 0) []=[]
  ·cases hs:a.smp with
   | none=>simp [h2]
   | some s =>
    simp only [hs,h2,ne_eq,not_true,if_false] at h ⊢
    by_cases h3:(eH s 3 n).proper=true
    ·simp [h3] at h
    ·simp [h3]
  ·simp [h2]
def sa (C:List Tm) (a:Tm):List PV:=[.sl false (ab (if (aK C.length a).1=0 then (C++[a]).map mu else [])),(aK C.length a).2.enc,.i (aK C.length a).1]
theorem tH {C:List Tm} (hC:CM C) (a:Tm) (h:a.ok) (hp:a.proper=true) (fl:Bool):az TT HH [] mM [.sl fl (ab (C.map mu)),.s ⟨#[]⟩,.sl false [],a.enc] []=some (.ret (.tup (sa C a)),[]):=by
 rw [C5]
 have h80:=hC.len
 have e3:C.length<9223372036854775808:=by omega
 have hf:=ar hp
 unfold sa
 by_cases h1:80≤C.length
 ·have h1':(80:Int)≤C.length:=by omega
  have hE:(aK C.length a).1=5:=by rw [qf,if_pos h1]
  have hT:=mz (n:=C.length) (a:=a) (by rw [hE]; decide)
  rw [hE,hT]
  simp [gV,e3,h1,h1']
  simp [tz,Tm.enc]
 ·have h1':¬ (80:Int)≤C.length:=by omega
  have hj:=au (DA a h hp) (by simp) (by simp)
  have ha:=au (yM hC a h hp) (by simp) (by simp)
  by_cases h2:nF a=0
  ·rw [if_pos h2] at ha
   have hs:∃ s,a.smp=some s:=by
    unfold nF at h2
    cases hs:a.smp with
    | none=>rw [hs] at h2; split at h2<;>simp at h2
    | some s=>exact ⟨s,rfl⟩
   obtain ⟨s,hs⟩:=hs
   obtain ⟨g1,g2,g3⟩:=iG hp hs
   have hdm:=au (dX a hf) (by simp) (by simp)
   have hdl:=lh 40 a
   have hLs:=Hf hf hs
   have hLl:=(uL _ _ hLs).1
   have hdp:∀ x∈Tm.doms 40 a,x.ok∧x.proper=true:=fun x hx=>by
    obtain ⟨d1,d2,d3⟩:=Cr 40 a 1 hf x hx
    have:=aI hp
    refine ⟨d3 h,?_⟩
    unfold Tm.proper
    rw [decide_eq_true (by omega),jW x _ _ (by omega) d2]; rfl
   have hcc:=au (Hd (Tm.doms 40 a) (by omega)) (by simp) (by simp)
   have hlong:eH s 3 C.length=dz s.args.length (.mk 4 3 C.length (cN s.args s.args.length 0)):=by rw [sy,if_neg (by omega)]
   have hlo:=fun (c:List PV)=>IV (Tm.doms 40 a) s.args C.length (.sl false (ab ((C++[a]).map mu))) (by simp) (Enc.cells a) [.i 0,.i 0,.i 0,.sl true []] (Enc.cells a) c (.s ⟨#[]⟩) hLs hdp hdl
   have hlok:=uD s g2 3 C.length (by omega) (by omega) (by omega) (by omega)
   have hck:=au (bO _ hlok) (by simp) (by simp)
   rw [hLl] at hlong
   have hll:(cN s.args (Tm.doms 40 a).length 0).length=(Tm.doms 40 a).length:=by rw [my,hLl]
   have hEq:(aK C.length a).1=if (eH s 3 C.length).proper then 0 else 5:=by rw [qf,if_neg h1,if_neg (by rw [h2]; simp),hs]
   have hT2:(eH s 3 C.length).proper=true→(aK C.length a).2=eH s 3 C.length:=fun hq=>by
    unfold nF at h2
    have hh:cY 1 (a.nds 0) []=[]:=by
     by_cases hh:cY 1 (a.nds 0) []=[]
     ·exact hh
     ·simp [hh] at h2
    unfold aK
    simp [h1,hh,hs,hq]
   generalize Tm.core 40 a=cr at *
   generalize Tm.doms 40 a=D at *
   have e4:D.length<9223372036854775808:=by omega
   rw [hlong] at hck hT2 hEq
   have hpl:∀ l,(Tm.mk 4 3 C.length l)=Tm.mk 4 3 C.length l:=fun _=>rfl
   generalize hR:cN s.args D.length 0=R at *
   have hlo:=hlo (Enc.cells cr)
   simp only [FrS] at hlo
   by_cases hall:R.all Tm.proper=true
   ·rw [if_pos hall] at hlo
    simp at hlo
    have fin:∃ cs,LO TT HH [0] cG ([(9,.ptr 2 0),(13,.sl false (ab ((C++[a]).map mu))),(16,.ptr 5 0),(106,.i D.length),(107,.i 0)],FrS (Enc.cells a) [.i 0,.i 0,.i 0,.sl true []] (Enc.cells a) (Enc.cells cr) (.s ⟨#[]⟩) [.i 4,.i 3,.i C.length,.ow 6 D.length (ab R)] D.length)=some (.exit 2,[(9,.ptr 2 0),(13,.sl false (ab ((C++[a]).map mu))),(16,.ptr 5 0)],FrS (Enc.cells a) [.i 0,.i 0,.i 0,.sl true []] (Enc.cells a) (Enc.cells cr) (.s ⟨#[]⟩) cs D.length)∧(cs=Enc.cells (dz D.length (.mk 4 3 C.length R))∨(cs=[.i 4,.i 3,.i C.length,.ow 6 R.length (ab R)]∧dz D.length (.mk 4 3 C.length R)=.mk 4 3 C.length R)):=by
     cases hk:D.length with
     | zero =>
      rw [hk] at hll
      refine ⟨_,?_,.inr ⟨rfl,rfl⟩⟩
      rw [aP,aF]
      generalize LO TT HH [0] cG=F
      simp [cG,FrS,hll]
     | succ m =>
      rw [hk] at hll
      have hth:=IU (Enc.cells a) [.i 0,.i 0,.i 0,.sl true []] (Enc.cells a) (Enc.cells cr) (.s ⟨#[]⟩) (.sl false (ab ((C++[a]).map mu))) (m+1) m (nH (.mk 4 3 C.length R)) 1 ((m:Int)+1) (by omega) (by omega) (by simp)
      rw [show ((1:Nat):Int)=1 from rfl] at hth
      refine ⟨_,?_,.inl rfl⟩
      rw [aP,aF]
      generalize LO TT HH [0] cG=F at hth ⊢
      have e1:(0:Int)<(m:Int)+1:=by omega
      have hw:IntKind.i64.wrap 1=1:=ai _ (by omega) (by omega)
      have hlam:∀ bars σ,RR TT HH bars jN [.agg [.i 4,.i 3,.i C.length,.ow 6 (m+1) (ab R)]] σ=some (.ret (nH (.mk 4 3 C.length R)).enc,σ):=fun bars σ=>by
       refine kH ?_ (by simp) (by simp) (by simp) bars σ
       rw [← oM]
       simp [Tm.enc]
      simp only [FrS] at hth ⊢
      simp at hth
      simp [cG,e1,hw,hlam,hth,aa,dz]
    obtain ⟨cs,hcs,hcs2⟩:=fin
    have hc4:∃ c1 c2 c3 c4,cs=[c1,c2,c3,c4]∧norm.normAll cs=Enc.cells (dz D.length (.mk 4 3 C.length R))∧aj [0] 2 c1=true∧aj [0] 2 c2=true∧aj [0] 2 c3=true∧aj [0] 2 c4=true:=by
     rcases hcs2 with rfl|⟨rfl,h⟩
     ·exact ⟨_,_,_,_,by rw [fK],Enc.nrm _,by simp,by simp,by simp,by simp⟩
     ·exact ⟨_,_,_,_,rfl,by rw [h]; simp [norm.normAll,norm],by simp,by simp,by simp,by simp [aj]⟩
    have hckc:∀ bars σ,RR TT HH bars ci [.agg cs] σ=some (.ret (.i (if (dz D.length (.mk 4 3 C.length R)).proper then 0 else 2)),σ):=fun bars σ=>by
     rcases hcs2 with rfl|⟨rfl,h⟩
     ·exact hck bars σ
     ·refine kH ?_ (by simp) (by simp) (by simp) bars σ
      have:=bO _ hlok
      rw [hlong] at this
      rw [← this,h]
      simp [Tm.enc]
    obtain ⟨c1,c2,c3,c4,rfl,hn4,q1,q2,q3,q4⟩:=hc4
    simp only [FrS] at hcs
    simp at hcs
    simp [norm.normAll] at hn4
    by_cases hq:(dz D.length (.mk 4 3 C.length R)).proper=true
    ·rw [hEq,if_pos hq,hT2 hq]
     rw [if_pos hq] at hckc
     simp [gV,e3,e4,h1,h1',hj,ha,hdm,hcc,hlo,hcs,hckc,q1,q2,q3,q4,aj,aa]
     simp [Tm.enc,hn4]
    ·have hne:(aK C.length a).1≠0:=by rw [hEq,if_neg hq]; decide
     rw [mz hne,hEq,if_neg hq]
     rw [if_neg hq] at hckc
     simp [gV,e3,e4,h1,h1',hj,ha,hdm,hcc,hlo,hcs,hckc,aj,aa]
     simp [tz,Tm.enc]
   ·rw [if_neg hall] at hlo
    obtain ⟨k,l,hlo⟩:=hlo
    simp at hlo
    have hq:¬ (dz D.length (.mk 4 3 C.length R)).proper=true:=fun hq=>by
     apply hall
     rw [List.all_eq_true]
     intro x hx
     exact aR (uM _ _ hq) hx
    have hne:(aK C.length a).1≠0:=by rw [hEq,if_neg hq]; decide
    rw [mz hne,hEq,if_neg hq]
    simp [gV,e3,e4,h1,h1',hj,ha,hdm,hcc,hlo,aj,aa]
    simp [tz,Tm.enc]
  ·rw [if_neg h2] at ha
   have hE:(aK C.length a).1=nF a:=by rw [qf,if_neg h1,if_pos h2]
   have hT:=mz (n:=C.length) (a:=a) (by rw [hE]; exact h2)
   rw [hE,hT,if_neg h2]
   simp [gV,e3,h1,h1',hj,ha,h2,aa]
   simp [tz,Tm.enc]
theorem Ag {C:List Tm} (hC:CM C) (a:Tm) (h:a.ok) (hp:a.proper=true) (hm:a.mb C.length=true) (fl fl2:Bool):az TT HH [] pO [.sl fl (ab (C.map mu)),.s ⟨#[]⟩,.sl fl2 [],a.enc] []=some (.ret (.tup (sa C a)),[]):=by
 rw [C7]
 have h80:=hC.len
 have e3:C.length<9223372036854775808:=by omega
 have hck:=au (lU hC false) (by simp) (by simp)
 have hkn:=au (lT a h hp C.length) (by simp) (by simp)
 rw [hm] at hkn
 have hfr:=au (tH hC a h hp false) (by simp) (by simp)
 have hcl:=yN
 have l1:1≤LIM:=by decide
 have hw1:IntKind.i64.wrap 1=1:=ai _ (by omega) (by omega)
 have hlo:LO TT HH [0] fi ([(0,.sl false (ab (C.map mu))),(1,.s ⟨#[]⟩),(2,.sl false []),(7,.ptr 0 0),(9,.ptr 1 0),(11,.b true),(34,.sl false [[.i a.op,.i a.hd,.i a.n,.sl false (ab a.args)]]),(35,.i 1),(36,.i 0)],[.var [.i a.op,.i a.hd,.i a.n,.sl false (ab a.args)],.var [.i 0,.i 0,.i 0,.sl true []]])=some (.exit 0,[(0,.sl false (ab (C.map mu))),(1,.s ⟨#[]⟩),(2,.sl false []),(7,.ptr 0 0),(9,.ptr 1 0),(11,.b true)],[.var [.i a.op,.i a.hd,.i a.n,.sl false (ab a.args)],.var [.i 0,.i 0,.i 0,.sl true []]]):=by
  have k1:LO TT HH [0] fi ([(0,.sl false (ab (C.map mu))),(1,.s ⟨#[]⟩),(2,.sl false []),(7,.ptr 0 0),(9,.ptr 1 0),(11,.b true),(34,.sl false [[.i a.op,.i a.hd,.i a.n,.sl false (ab a.args)]]),(35,.i 1),(36,.i 1)],[.var [.i a.op,.i a.hd,.i a.n,.sl false (ab a.args)],.var [.i 0,.i 0,.i 0,.sl true []]])=some (.exit 0,[(0,.sl false (ab (C.map mu))),(1,.s ⟨#[]⟩),(2,.sl false []),(7,.ptr 0 0),(9,.ptr 1 0),(11,.b true)],[.var [.i a.op,.i a.hd,.i a.n,.sl false (ab a.args)],.var [.i 0,.i 0,.i 0,.sl true []]]):=by
   rw [aP,aF]
   generalize LO TT HH [0] fi=F
   simp [fi]
  rw [aP,aF]
  generalize LO TT HH [0] fi=F at k1 ⊢
  simp [fi,e3,hkn,hw1,k1,aa]
 simp only [sa] at hfr ⊢
 simp [rP,e3,hck,hcl,l1,hlo,hfr,aa,aB]
end Go.Ev

namespace Go.Ev
def Hg (v:PV) (C:List Tm):Prop:=v=.sl false (ab (C.map mu))∨(C=[]∧v=.sl true [])
theorem oN {v:PV} {C:List Tm} (h:Hg v C):∃ fl,v=.sl fl (ab (C.map mu)):=by
 rcases h with h|⟨rfl,h⟩
 ·exact ⟨false,h⟩
 ·exact ⟨true,h⟩
theorem Hh (c x:Tm) (hc:c.ok) (hp:c.proper=true) (hx:x.ok) (hxp:x.proper=true) (fl:Bool) (bars:List Nat) (σ:Sto):RR TT HH bars er [c.enc,.sl fl (ab [x])] σ=some (.ret (.tup [(cu c x).2.enc,.i (cu c x).1]),σ):=by
 cases fl
 ·exact au (pF c x hc hp hx hxp) (by simp) (by simp) bars σ
 ·refine au ?_ (by simp) (by simp) bars σ
  have:=pF c x hc hp hx hxp
  rw [ru _ _ _ rfl] at this ⊢
  exact this
theorem Hi {k:Nat} {C l:List Tm} {c:Tm} (h:c.op≠2):cX (k+1) C l c=(23,[],[],tz):=by simp [cX,h]
theorem va {k:Nat} {C l:List Tm} {c:Tm} (h:c.op=2) (h1:(cJ C.length c).1≠0):cX (k+1) C l c=((cJ C.length c).1,[],[],tz):=by simp [cX,h,h1]
theorem CA {k:Nat} {C l:List Tm} {c:Tm} (h:c.op=2) (h1:(cJ C.length c).1=0):cX (k+1) C l c=cX k (C++[c.dom]) (l++[(cJ C.length c).2.1]) (cJ C.length c).2.2:=by simp [cX,h,h1]
set_option maxHeartbeats 1000000 in
theorem KU (σ:Sto) (bars:List Nat) (hbr:∀ y∈bars,y≤σ.length) (n:Nat) (hn:n≤40):∀ (k:Nat) (C l:List Tm) (c:Tm) (i:Nat) (v:PV),CM C→c.ok→c.proper=true→c.mb C.length=true→i+k=n→l.length=i→Hg v C →
  if (cX k C l c).1=0 then ∃ w,LO TT HH (σ.length::bars) bQ ([(1,.sl false []),(6,.ptr σ.length 0),(10,.ptr (σ.length+1) 0),(15,v),(16,.ow (σ.length+2) l.length (ab l)),(53,.i n),(54,.i i)],σ++[.var (Enc.cells c),.var [.i 0,.i 0,.i 0,.sl true []],.tok 4 l.length]) =
      some (.exit 2,[(6,.ptr σ.length 0),(10,.ptr (σ.length+1) 0),(15,w),(16,.ow (σ.length+2) (cX k C l c).2.2.1.length (ab (cX k C l c).2.2.1))],σ++[.var (Enc.cells (cX k C l c).2.2.2),.var [.i 0,.i 0,.i 0,.sl true []],.tok 4 (cX k C l c).2.2.1.length])∧Hg w (cX k C l c).2.1
  else ∃ a b,LO TT HH (σ.length::bars) bQ ([(1,.sl false []),(6,.ptr σ.length 0),(10,.ptr (σ.length+1) 0),(15,v),(16,.ow (σ.length+2) l.length (ab l)),(53,.i n),(54,.i i)],σ++[.var (Enc.cells c),.var [.i 0,.i 0,.i 0,.sl true []],.tok 4 l.length]) =
    some (.ret,[(8,.sl true []),(9,.sl true []),(10,.ptr (σ.length+1) 0),(11,.i (cX k C l c).1)],σ++[a,.var [.i 0,.i 0,.i 0,.sl true []],b]):=by
 have tk:∀ (a b c:Ob) (l:Sto),(σ++a::b::c::l).take (σ.length+3)=σ++[a,b,c]:=fun a b c l=>by rw [af]; rfl
 have hB:∀ j x,aj bars (σ.length+j) x=true:=fun j x=>dq x fun b hb=>by have:=hbr b hb; omega
 have hB0:∀ x,aj bars σ.length x=true:=fun x=>dq x fun b hb=>hbr b hb
 have hL1:∀ j,σ.length<σ.length+(j+1):=fun j=>by omega
 intro k
 induction k with
 | zero =>
  intro C l c i v hC hc hp hm hi hl hv
  obtain ⟨fl,rfl⟩:=oN hv
  have e1:¬ (i:Int)<n:=by omega
  simp only [cX,if_true]
  refine ⟨_,?_,hv⟩
  rw [aP,aF]
  generalize LO TT HH (σ.length::bars) bQ=F
  simp [bQ,e1,tk]
 | succ k ih =>
  intro C l c i v hC hc hp hm hi hl hv
  obtain ⟨fl,rfl⟩:=oN hv
  have e1:(i:Int)<n:=by omega
  have hw:IntKind.i64.wrap ((i:Int)+1)=(i:Int)+1:=ai _ (by omega) (by omega)
  by_cases h2:c.op=2
  ·obtain ⟨a,b,hab,ha,hb⟩:=cz (ar hp) h2
   obtain ⟨hd,hbo⟩:=uE hab
   have hao:a.ok:=hc.sub a (by rw [hab]; simp)
   have hap:a.proper=true:=aR hp (by rw [hab]; simp)
   have hfr:=au (tH hC a hao hap fl) (by simp) (by simp)
   simp only [sa] at hfr
   by_cases h1:(aK C.length a).1=0
   ·rw [if_pos h1,h1] at hfr
    have hmm:=hm
    rw [nK,Bool.and_eq_true] at hmm
    obtain ⟨f1,f2,f3,f4,f5,f6,f7⟩:=sA hC hao hap (mbL_mem.1 hmm.2 a (by rw [hab]; simp)) h1
    have hin:=Hh c (aK C.length a).2 hc hp f2 f3 true
    have hce:c.enc=.agg [.i 2,.i c.hd,.i c.n,.sl false [[.i a.op,.i a.hd,.i a.n,.sl false (ab a.args)],[.i b.op,.i b.hd,.i b.n,.sl false (ab b.args)]]]:=by simp [Tm.enc,h2,hab,aB]
    rw [hce] at hin
    by_cases h3:(cu c (aK C.length a).2).1=0
    ·have hst:cJ C.length c=(0,(aK C.length a).2,(cu c (aK C.length a).2).2):=by simp [cJ,hd,h1,h3]
     have hs1:(cJ C.length c).1=0:=by rw [hst]
     obtain ⟨-,-,g1,g2,g3,g4,g5,g6,g7,-⟩:=sB hC hc hp hm h2 hs1
     rw [hst] at g2 g3 g4 g5 g6 g7
     have hth:=ih (C++[c.dom]) (l++[(aK C.length a).2]) (cu c (aK C.length a).2).2 (i+1) (.sl false (ab ((C++[c.dom]).map mu))) g1 g5 g6 (by simpa using g7) (by omega) (by simp [hl]) (.inl rfl)
     rw [CA h2 hs1,hst]
     have hLO:LO TT HH (σ.length::bars) bQ ([(1,.sl false []),(6,.ptr σ.length 0),(10,.ptr (σ.length+1) 0),(15,.sl fl (ab (C.map mu))),(16,.ow (σ.length+2) l.length (ab l)),(53,.i n),(54,.i i)],σ++[.var (Enc.cells c),.var [.i 0,.i 0,.i 0,.sl true []],.tok 4 l.length]) =
       LO TT HH (σ.length::bars) bQ ([(1,.sl false []),(6,.ptr σ.length 0),(10,.ptr (σ.length+1) 0),(15,.sl false (ab ((C++[c.dom]).map mu))),(16,.ow (σ.length+2) (l++[(aK C.length a).2]).length (ab (l++[(aK C.length a).2]))),(53,.i n),(54,.i ((i+1:Nat):Int))],σ++[.var (Enc.cells (cu c (aK C.length a).2).2),.var [.i 0,.i 0,.i 0,.sl true []],.tok 4 (l++[(aK C.length a).2]).length]):=by
      rw [aP,aF]
      generalize LO TT HH (σ.length::bars) bQ=F
      have hl1:l.length+1≤LIM:=by unfold LIM; omega
      rw [h3] at hin
      simp [aB] at hin
      rw [hd]
      simp [bQ,e1,hw,h2,hab,hfr,hin,hl1,tk,hL1,aa,aB,aj,hB,hB0,-getElem?_pos,List.getElem?_cons_zero,List.getElem?_cons_succ,List.getElem?_nil,ak,aw,aq,ax,ay,ag,af,take_set,ae]
     rw [hLO]
     exact hth
    ·have htz:=sE c _ h3
     have hst1:(cJ C.length c).1=(cu c (aK C.length a).2).1:=by simp [cJ,hd,h1]
     rw [va h2 (by rw [hst1]; exact h3),hst1]
     simp only [h3,if_false]
     refine ⟨.var (Enc.cells c),.tok 4 l.length,?_⟩
     rw [aP,aF]
     generalize LO TT HH (σ.length::bars) bQ=F
     rw [htz] at hin
     simp [aB] at hin
     simp [bQ,e1,hw,h2,h3,hab,hfr,hin,tk,hL1,aa,aB,aj,hB,hB0,-getElem?_pos,List.getElem?_cons_zero,List.getElem?_cons_succ,List.getElem?_nil,ak,aw,aq,ax,ay,ag,af,take_set,ae]
   ·have hst1:(cJ C.length c).1=(aK C.length a).1:=by simp [cJ,hd,h1]
    rw [if_neg h1] at hfr
    rw [va h2 (by rw [hst1]; exact h1),hst1]
    simp only [h1,if_false]
    refine ⟨.var (Enc.cells c),.tok 4 l.length,?_⟩
    rw [aP,aF]
    generalize LO TT HH (σ.length::bars) bQ=F
    simp [bQ,e1,hw,h2,h1,hab,hfr,tk,hL1,aa,aB,aj,hB,hB0,-getElem?_pos,List.getElem?_cons_zero,List.getElem?_cons_succ,List.getElem?_nil,ak,aw,aq,ax,ay,ag,af,take_set,ae]
  ·rw [Hi h2]
   simp only [show ¬ ((23:Int)=0) by decide,if_false]
   refine ⟨.var (Enc.cells c),.tok 4 l.length,?_⟩
   rw [aP,aF]
   generalize LO TT HH (σ.length::bars) bQ=F
   simp [bQ,e1,h2,tk,hL1,aa,aj,hB,hB0,-getElem?_pos,List.getElem?_cons_zero,List.getElem?_cons_succ,List.getElem?_nil,ak,aw,aq,ax,ay,ag,af,take_set,ae]
end Go.Ev

namespace Go.Ev
def Hj (R:Int×List Tm×List Tm×Tm) (σ:Sto) (r:Option (Out×Sto)):Prop :=
 if R.1=0 then ∃ (w:PV) (a:Ob) (l:Sto),Hg w R.2.1∧r=some (.ret (.tup [w,.ow (σ.length+2) R.2.2.1.length (ab R.2.2.1),R.2.2.2.enc,.i 0]),σ++a::l)
 else ∃ (a:Ob) (l:Sto),r=some (.ret (.tup [.sl true [],.sl true [],.agg [.i 0,.i 0,.i 0,.sl true []],.i R.1]),σ++a::l)
theorem vH (c:Tm) (hc:c.ok) (hp:c.proper=true) (hm:c.mb 0=true) (n:Nat) (hn:n≤40) (bars:List Nat) (σ:Sto) (hbr:∀ y∈bars,y≤σ.length) :
  Hj (cX n [] [] c) σ (az TT HH bars jK [.sl true [],.sl true [],c.enc,.i n] σ):=by
 rw [EY]
 have hck:=au (lU qN false) (by simp) (by simp)
 simp at hck
 have hkn:=au (lT c hc hp 0) (by simp) (by simp)
 rw [hm] at hkn
 have hcl:=yN
 have hcp:=py false
 have hcc:=o6 c hc hp
 have l1:1≤LIM:=by decide
 have hw1:IntKind.i64.wrap 1=1:=ai _ (by omega) (by omega)
 have hn0:(0:Int)≤n:=by omega
 have hB:∀ j x,aj bars (σ.length+j) x=true:=fun j x=>dq x fun b hb=>by have:=hbr b hb; omega
 have tk2:∀ (a b:Ob) (l:Sto),(σ++a::b::l).take (σ.length+2)=σ++[a,b]:=fun a b l=>by rw [af]; rfl
 have hlo:LO TT HH (σ.length::bars) fO ([(0,.sl false []),(1,.sl false []),(3,.i n),(6,.ptr σ.length 0),(10,.ptr (σ.length+1) 0),(12,.b true),(32,.sl false [[.i c.op,.i c.hd,.i c.n,.sl false (ab c.args)]]),(33,.i 1),(34,.i 0)],σ++[.var [.i c.op,.i c.hd,.i c.n,.sl false (ab c.args)],.var [.i 0,.i 0,.i 0,.sl true []]]) =
   some (.exit 0,[(0,.sl false []),(1,.sl false []),(3,.i n),(6,.ptr σ.length 0),(10,.ptr (σ.length+1) 0),(12,.b true)],σ++[.var [.i c.op,.i c.hd,.i c.n,.sl false (ab c.args)],.var [.i 0,.i 0,.i 0,.sl true []]]):=by
  have k1:LO TT HH (σ.length::bars) fO ([(0,.sl false []),(1,.sl false []),(3,.i n),(6,.ptr σ.length 0),(10,.ptr (σ.length+1) 0),(12,.b true),(32,.sl false [[.i c.op,.i c.hd,.i c.n,.sl false (ab c.args)]]),(33,.i 1),(34,.i 1)],σ++[.var [.i c.op,.i c.hd,.i c.n,.sl false (ab c.args)],.var [.i 0,.i 0,.i 0,.sl true []]]) =
    some (.exit 0,[(0,.sl false []),(1,.sl false []),(3,.i n),(6,.ptr σ.length 0),(10,.ptr (σ.length+1) 0),(12,.b true)],σ++[.var [.i c.op,.i c.hd,.i c.n,.sl false (ab c.args)],.var [.i 0,.i 0,.i 0,.sl true []]]):=by
   rw [aP,aF]
   generalize LO TT HH (σ.length::bars) fO=F
   simp [fO,tk2]
  rw [aP,aF]
  generalize LO TT HH (σ.length::bars) fO=F at k1 ⊢
  simp [fO,hkn,hw1,k1,tk2,aa,-getElem?_pos,List.getElem?_cons_zero,List.getElem?_cons_succ,List.getElem?_nil,ak,aw,aq,ax,ay,ag,af,take_set,ae]
 have hop:=KU σ bars hbr n hn n [] [] c 0 (.sl true []) qN hc hp (by simpa using hm) (by omega) rfl (.inr ⟨rfl,rfl⟩)
 unfold Hj
 by_cases he:(cX n [] [] c).1=0
 ·rw [if_pos he] at hop ⊢
  obtain ⟨w,hop,hw⟩:=hop
  generalize cX n [] [] c=R at *
  obtain ⟨fl,rfl⟩:=oN hw
  refine ⟨.sl fl (ab (R.2.1.map mu)),.var (Enc.cells R.2.2.2),[.var (Enc.cells R.2.2.2),.tok 4 R.2.2.1.length],hw,?_⟩
  simp at hop
  simp [pV,hck,hcl,hcp,hcc,hlo,hop,l1,hn0,aj,hB,aa,aB,-getElem?_pos,List.getElem?_cons_zero,List.getElem?_cons_succ,List.getElem?_nil,ak,aw,aq,ax,ay,ag,af,take_set,ae]
 ·rw [if_neg he] at hop ⊢
  obtain ⟨a,b,hop⟩:=hop
  generalize cX n [] [] c=R at *
  refine ⟨a,[.var [.i 0,.i 0,.i 0,.sl true []],b],?_⟩
  simp at hop
  simp [pV,hck,hcl,hcp,hcc,hlo,hop,l1,hn0,aj,hB,aa,aB,-getElem?_pos,List.getElem?_cons_zero,List.getElem?_cons_succ,List.getElem?_nil,ak,aw,aq,ax,ay,ag,af,take_set,ae]
theorem CB (c:Tm) (hc:c.ok) (hp:c.proper=true) (hm:c.mb 0=true) (n:Nat) (hn:n≤40) (bars:List Nat) (σ:Sto) (hbr:∀ y∈bars,y≤σ.length) :
  Hj (cX n [] [] c) σ (RR TT HH bars jK [.sl true [],.sl true [],c.enc,.i n] σ):=by
 have h0:=vH c hc hp hm n hn [] [] (by simp)
 have hg:∃ r a l,az TT HH [] jK [.sl true [],.sl true [],c.enc,.i n] []=some (r,a::l):=by
  unfold Hj at h0
  by_cases he:(cX n [] [] c).1=0
  ·rw [if_pos he] at h0
   obtain ⟨w,a,l,-,h0⟩:=h0
   exact ⟨_,a,l,h0⟩
  ·rw [if_neg he] at h0
   obtain ⟨a,l,h0⟩:=h0
   exact ⟨_,a,l,h0⟩
 obtain ⟨r,a,l,hg⟩:=hg
 rw [ry hg (by simp) (by simp)]
 exact vH c hc hp hm n hn bars σ hbr
end Go.Ev

namespace Go.Ev
theorem DB {St:Type} (g:FuncId) (cap:List PV) (hg:g<YB) (hc:below.belowAll 0 cap=false) (S:St→Sto) (step:St→Tm×Int→St) (L:Nat) (hL:∀ s,(S s).length=L)
  (hcb:∀ n,L≤n→below.belowAll n cap=true) (good:Tm×Int→Prop) (Inv:St→Prop) (BP:Nat→Prop) (hBP:∀ n,L≤n→BP n)
  (hv:∀ (x:Tm) (k:Int) (s:St) (bars:List Nat) (ext:Sto),good (x,k)→Inv s→(∀ b∈bars,BP b)→RR TT HH bars g (x.enc::.i k::cap) (S s++ext)=some (.ret (.tup []),S (step s (x,k))++ext)∧Inv (step s (x,k))) :
  ∀ t:Tm,t.ok→∀ (b d:Int) (s:St) (bars:List Nat) (ext:Sto),t.formed d=true→0≤b→b≤d→(∀ y∈t.nds b,good y)→Inv s→(∀ b∈bars,BP b) →
   az TT HH bars ck [t.enc,.i b,.fn (.func g) cap] (S s++ext)=some (.ret (.tup []),S ((t.nds b).foldl step s)++ext)∧Inv ((t.nds b).foldl step s) :=
 Tm.ind fun t ih hok b d s bars ext hf h0 h1 hgood hI hbp=>by
  rw [wQ]
  have hd40:=dK hf
  rw [qI] at hgood ⊢
  have e3:=ml hok.len
  have hbp1:∀ j,∀ y∈(L+j)::bars,BP y:=fun j y hy=>by
   rcases List.mem_cons.1 hy with rfl|hy
   ·exact hBP _ (Nat.le_add_right ..)
   ·exact hbp y hy
  obtain ⟨hv0,hI0⟩:=hv t b s ((L+ext.length)::bars) (ext++[.var (Enc.cells t)]) (hgood _ (by simp)) hI (hbp1 _)
  have htk:∀ s l,(S s++(ext++l)).take (L+ext.length)=S s++ext:=fun s l=>by rw [← List.append_assoc]; exact List.take_left' (by simp [hL])
  have htk1:∀ s x l,(S s++(ext++x::l)).take (L+(ext.length+1))=S s++(ext++[x]):=fun s x l=>by
   rw [show S s++(ext++x::l)=(S s++(ext++[x]))++l by simp]; exact List.take_left' (by simp [hL])
  have hlo:=gJ (T:=TT) (H:=HH) (b:=(L+ext.length)::bars) (A:=fY) t.args
   (fun i (s:St)=>([(1,.i b),(2,.fn (.func g) cap),(3,.ptr (L+ext.length) 0),(13,.sl false (ab t.args)),(14,.i t.args.length),(15,.i i)],S s++(ext++[.var (Enc.cells t)])))
   (fun r i s y=>y=(.exit 0,[],S ((Tm.ndsL t.op r i b).foldl step s)++(ext++[.var (Enc.cells t)]))∧Inv ((Tm.ndsL t.op r i b).foldl step s))
   (fun i s=>Inv s∧∀ y∈Tm.ndsL t.op (t.args.drop i) i b,good y)
   (fun s hs=>by
    refine ⟨_,?_,by simp,rfl,hs.1⟩
    rw [aF]
    simp [fY,e3,hL,hcb,htk,htk1,Tm.ndsL,Nat.add_assoc])
   (fun i x r s hx hm hd hi ⟨hIs,hgd⟩=>by
    have e1:(i:Int)<t.args.length:=by omega
    have hw:IntKind.i64.wrap ((i:Int)+1)=(i:Int)+1:=ai _ (by omega) (by omega)
    have u0:=iX t.op i
    have u1:=kz t.op i
    have hw1:IntKind.i64.wrap (b+t.under i)=b+und t.op i:=ai _ (by rw [fb]; omega) (by rw [fb]; omega)
    have hr:t.args.drop (i+1)=r:=by have:=congrArg List.tail hd; simpa using this
    rw [hd,Tm.ndsL] at hgd
    have hu:=au (lS t i) (by simp) (by simp)
    obtain ⟨hc1,hI1⟩:=ih x hm (hok.sub x hm) (b+und t.op i) (d+1) s ((L+(ext.length+1))::(L+ext.length)::bars) (ext++[.var (Enc.cells t),.var (Enc.cells x)]) (cR hf hm) (by omega) (by omega) (fun y hy=>hgd y (by simp [hy])) hIs (fun y hy=>by
     rcases List.mem_cons.1 hy with rfl|hy
     ·exact hBP _ (Nat.le_add_right ..)
     ·exact hbp1 _ y hy)
    have hc1:RR TT HH ((L+(ext.length+1))::(L+ext.length)::bars) ck [x.enc,.i (b+und t.op i),.fn (.func g) cap] (S s++(ext++[.var (Enc.cells t),.var (Enc.cells x)]))=some (.ret (.tup []),S ((x.nds (b+und t.op i)).foldl step s)++(ext++[.var (Enc.cells t),.var (Enc.cells x)])):=by
     rw [aX (by simp [hc]) (by simp [hc]),hc1]
    refine .inr ⟨(x.nds (b+und t.op i)).foldl step s,?_,⟨hI1,fun y hy=>hgd y (by rw [hr] at hy; push_cast at hy; exact List.mem_append_right _ hy)⟩,fun y hy=>by simpa [Tm.ndsL] using hy⟩
    simp only [fK] at hc1
    rw [aF]
    simp [fY,e1,e3,hx,hc1,hu,hw,hw1,aa,hL,hcb,htk,htk1,-getElem?_pos,List.getElem?_cons_zero,List.getElem?_cons_succ,List.getElem?_nil,ak,aw,aq,ax,ay,ag,af,take_set,ae,Nat.add_assoc]) 0 (step s (t,b)) (by omega) ⟨hI0,fun y hy=>hgood y (List.mem_cons_of_mem _ (by simpa using hy))⟩
  obtain ⟨y,hy,rfl,hIy⟩:=hlo
  simp only [List.drop_zero,Int.natCast_zero] at hy hIy
  refine ⟨?_,by simpa using hIy⟩
  simp at hy hv0
  simp [pY,hL,hv0,hg,e3,aa,hy,htk,-getElem?_pos,List.getElem?_cons_zero,List.getElem?_cons_succ,List.getElem?_nil,ak,aw,aq,ax,ay,ag,af,take_set,ae,Nat.add_assoc]
end Go.Ev

namespace Go.Ev
def mkS (B:Int) (S0:List Bool) (l:List Int):List Bool:=(List.range 80).map fun (k:Nat)=>if (k:Int)<B then decide ((k:Int)∈l) else S0.getD k false
theorem xr (B:Int) (S0:List Bool) (l:List Int):(mkS B S0 l).length=80:=by simp [mkS]
theorem AJ (B:Int) (S0:List Bool) (l:List Int) {k:Nat} (h:k<80):(mkS B S0 l)[k]? = some (if (k:Int)<B then decide ((k:Int)∈l) else S0.getD k false):=by
 unfold mkS
 rw [List.getElem?_map,List.getElem?_range h]; rfl
theorem IW {B:Int} {S0:List Bool} {l:List Int} {S:List Bool} (hS:S.length=80) (h:∀ k:Nat,k<80→S[k]? = some (if (k:Int)<B then decide ((k:Int)∈l) else S0.getD k false)):S=mkS B S0 l:=by
 apply List.ext_getElem?
 intro k
 by_cases hk:k<80
 ·rw [h k hk,AJ B S0 l hk]
 ·rw [List.getElem?_eq_none (by omega),List.getElem?_eq_none (by rw [xr]; omega)]
def NO (C:List Tm) (tc:List PV) (S:List Bool) (l:List Int):Sto:=[.var [.sl false (ab (C.map mu))],.var tc,.var (S.map PV.b),.var [.ow 4 l.length (ab l)],.tok 1 l.length,.var [.i 0],.var [.fn (.func fN) [.ptr 2 0,.ptr 5 0,.ptr 0 0,.ptr 6 0,.ptr 3 0]]]
def BPo (b:Nat):Prop:=b≤3∨4<b
theorem Ek {x:PV}:∀ {bars:List Nat},(∀ b∈bars,BPo b)→(∀ b,4<b→below b x=true)→aj bars 3 x=true
 | [],_,_=>rfl
 | b::r,h,hx=>by
  simp only [aj,Bool.and_eq_true,Bool.or_eq_true,decide_eq_true_eq]
  refine ⟨?_,Ek (fun y hy=>h y (by simp [hy])) hx⟩
  rcases h b (by simp) with h|h
  ·exact .inl h
  ·exact .inr (hx b h)
theorem Hk {C:List Tm} (hC:CM C) (tc:List PV):∀ (B:Nat),B≤C.length→∀ (t:Tm),t.ok→t.proper=true→t.mb B=true→∀ (S0:List Bool) (l:List Int) (bars:List Nat) (ext:Sto),OL C l→(∀ b∈bars,BPo b) →
  RR TT HH bars fN [t.enc,.ptr 2 0,.ptr 5 0,.ptr 0 0,.ptr 6 0,.ptr 3 0] (NO C tc (mkS B S0 l) l++ext)=some (.ret (.tup []),NO C tc (mkS B S0 (kC C t l)) (kC C t l)++ext):=by
 intro B
 induction B using Nat.strongRecOn with
 | _ B IH =>
 intro hB t ht hp hm S0 l bars ext hl hbp
 have h80:=hC.len
 have hf:=ar hp
 obtain ⟨L,hLe⟩:∃ L:Nat,L=7:=⟨_,rfl⟩
 have hL:∀ S l,(NO C tc S l).length=L:=fun S l=>by rw [hLe]; rfl
 have g0:∀ S l,(NO C tc S l)[0]? = some (.var [.sl false (ab (C.map mu))]):=fun _ _=>rfl
 have g2:∀ S l,(NO C tc S l)[2]? = some (.var (S.map PV.b)):=fun _ _=>rfl
 have g3:∀ S l,(NO C tc S l)[3]? = some (.var [.ow 4 l.length (ab l)]):=fun _ _=>rfl
 have g4:∀ S l,(NO C tc S l)[4]? = some (.tok 1 l.length):=fun _ _=>rfl
 have g5:∀ S l,(NO C tc S l)[5]? = some (.var [.i 0]):=fun _ _=>rfl
 have g6:∀ S l,(NO C tc S l)[6]? = some (.var [.fn (.func fN) [.ptr 2 0,.ptr 5 0,.ptr 0 0,.ptr 6 0,.ptr 3 0]]):=fun _ _=>rfl
 have l0:0<L:=by omega
 have l2:2<L:=by omega
 have l3:3<L:=by omega
 have l4:4<L:=by omega
 have l5:5<L:=by omega
 have l6:6<L:=by omega
 have s2:∀ S l S',(NO C tc S l).set 2 (.var (S'.map PV.b))=NO C tc S' l:=fun _ _ _=>rfl
 have s34:∀ S l l',((NO C tc S l).set 4 (.tok 1 l'.length)).set 3 (.var [.ow 4 l'.length (ab l')])=NO C tc S l':=fun _ _ _=>rfl
 have htk:∀ S l e,(NO C tc S l++(ext++e)).take (L+ext.length)=NO C tc S l++ext:=fun S l e=>by rw [← List.append_assoc]; exact List.take_left' (by simp [hL])
 have hBP7:∀ n,L≤n→BPo n:=fun n hn=>.inr (by omega)
 rw [aX (by simp) (by simp),zP]
 have hea:∀ e,RR TT HH ((L+ext.length)::bars) ck [t.enc,.i 0,.fn (.func ig) [.ptr 2 0,.ptr 5 0,.ptr 0 0,.ptr 6 0,.ptr 3 0]] (NO C tc (mkS B S0 l) l++(ext++e))=some (.ret (.tup []),NO C tc (mkS B S0 (kC C t l)) (kC C t l)++(ext++e)):=fun e=>by
  rw [aX (by simp) (by simp)]
  have:=DB ig [.ptr 2 0,.ptr 5 0,.ptr 0 0,.ptr 6 0,.ptr 3 0] (by simp) (by simp) (fun l=>NO C tc (mkS B S0 l) l) (gX C) L (fun l=>hL _ l) (fun n hn=>by simp; omega) (fun y=>∀ m,cD 3 y=some m→0≤m∧m<B) (OL C) BPo hBP7
   (fun x k l bars ext hg hl hbp=>by
    have hfold:=sC hC [(x,k)] B l hB (fun y hy m hm=>by simp at hy; subst hy; exact hg m hm) hl
    simp only [List.foldl_cons,List.foldl_nil] at hfold
    refine ⟨?_,hfold.1⟩
    have htk:∀ S l e,(NO C tc S l++(ext++e)).take (L+ext.length)=NO C tc S l++ext:=fun S l e=>by rw [← List.append_assoc]; exact List.take_left' (by simp [hL])
    rw [aX (by simp) (by simp),wR]
    by_cases a1:x.op=4
    ·by_cases a2:x.hd=3
     ·have hv:cD 3 (x,k)=some x.n:=hval3.2 ⟨a1,a2,rfl⟩
      obtain ⟨n0,n1⟩:=hg x.n hv
      have n80:x.n<80:=by omega
      have hge:(mkS B S0 l)[x.n.toNat]? = some (decide (x.n∈l)):=by
       rw [AJ B S0 l (by omega),show ((x.n.toNat:Nat):Int)=x.n by omega,if_pos n1]
      have htk1:=tk1 hge
      have hS1:x.n.toNat+1≤(mkS B S0 l).length:=by rw [xr]; omega
      by_cases hin:x.n∈l
      ·have hP:gX C l (x,k)=l:=by unfold gX; rw [hv]; simp [hin]
       rw [hP]
       simp [hin] at htk1
       simp [eZ,hL,l0,l2,l3,l4,l5,l6,g0,g2,g3,g5,g6,a1,a2,n0,n80,hS1,htk1,htk,aa,-getElem?_pos,List.getElem?_cons_zero,List.getElem?_cons_succ,List.getElem?_nil,ak,aw,aq,ax,ay,ag,af,take_set,ae,Nat.add_assoc]
      ·have hP:gX C l (x,k)=kC C (C.getD x.n.toNat tz) l++[x.n]:=by unfold gX; rw [hv]; simp [hin]
       obtain ⟨a,ha,hga,ao,ap,-,-,am⟩:=uF hC n0 (by omega)
       rw [hga] at hP
       have hfa:=sC hC (a.nds 0) x.n.toNat l (by omega) (fun y hy m hm=>by
        have:=xf (ar ap) (by omega) am hy hm; omega) hl
       rw [← sD hC (ar ap) (by omega) (oL (by omega) a am) hl] at hfa
       obtain ⟨hO',⟨sx,hsx,hsx'⟩,-⟩:=hfa
       obtain ⟨S1,hS1e⟩:∃ S1,S1=(mkS B S0 l).set x.n.toNat true:=⟨_,rfl⟩
       have hS1l:S1.length=80:=by rw [hS1e,List.length_set,xr]
       have hS1g:∀ k:Nat,k<80→S1[k]? = some (if k=x.n.toNat then true else if (k:Int)<B then decide ((k:Int)∈l) else S0.getD k false):=fun k hk=>by
        rw [hS1e]
        by_cases hkn:k=x.n.toNat
        ·subst hkn; rw [List.getElem?_set_self (by rw [xr]; exact hk)]; simp
        ·rw [List.getElem?_set_ne (fun h=>hkn h.symm),AJ B S0 l hk,if_neg hkn]
       have hset:List.take x.n.toNat ((mkS B S0 l).map PV.b)++PV.b true::List.drop (x.n.toNat+1) ((mkS B S0 l).map PV.b)=S1.map PV.b:=by
        rw [hS1e,List.set_eq_take_append_cons_drop,if_pos (by omega)]; simp
       have hS1d:∀ k:Nat,k<80→S1.getD k false=(if k=x.n.toNat then true else if (k:Int)<B then decide ((k:Int)∈l) else S0.getD k false):=fun k hk=>by
        rw [List.getD_eq_getElem?_getD,hS1g k hk]; rfl
       have hS1m:S1=mkS x.n.toNat S1 l:=IW hS1l fun k hk=>by
        rw [hS1g k hk]
        by_cases hkx:(k:Int)<x.n.toNat
        ·rw [if_neg (by omega),if_pos (by omega),if_pos hkx]
        ·rw [if_neg hkx,hS1d k hk]
       have hfin:mkS x.n.toNat S1 (kC C a l)=mkS B S0 (kC C a l++[x.n]):=IW (xr ..) fun k hk=>by
        rw [AJ _ _ _ hk]
        by_cases hkx:(k:Int)<x.n.toNat
        ·rw [if_pos hkx,if_pos (by omega)]
         have:(k:Int)≠x.n:=by omega
         simp [this]
        ·rw [if_neg hkx,hS1d k hk]
         by_cases hkn:k=x.n.toNat
         ·have:(k:Int)=x.n:=by omega
          rw [if_pos hkn,if_pos (by omega)]
          simp [this]
         ·rw [if_neg hkn]
          by_cases hkB:(k:Int)<B
          ·rw [if_pos hkB,if_pos hkB,hsx]
           have h1:(k:Int)≠x.n:=by omega
           have h2:(k:Int) ∉ sx:=fun h=>by have:=hsx' _ h; omega
           simp [h1,h2]
          ·rw [if_neg hkB,if_neg hkB]
       have hres:=au (qO C a ao ap (oL (by omega) a am)) (by simp) (by simp)
       have hxm:=IR ha
       have nC:x.n<C.length:=by omega
       have hrec:∀ e,RR TT HH ((L+ext.length)::bars) fN [a.enc,.ptr 2 0,.ptr 5 0,.ptr 0 0,.ptr 6 0,.ptr 3 0] (NO C tc S1 l++(ext++e))=some (.ret (.tup []),NO C tc (mkS x.n.toNat S1 (kC C a l)) (kC C a l)++(ext++e)):=fun e=>by
        have:=IH x.n.toNat (by omega) (by omega) a ao ap (by rw [show ((x.n.toNat:Nat):Int)=x.n by omega]; exact am) S1 l ((L+ext.length)::bars) (ext++e) hl (fun y hy=>by
         rcases List.mem_cons.1 hy with rfl|hy
         ·exact hBP7 _ (Nat.le_add_right ..)
         ·exact hbp y hy)
        rwa [← hS1m] at this
       have hlen:=hO'.len
       have hl1:(kC C a l).length+1≤LIM:=by unfold LIM; omega
       have hbo:aj ((L+ext.length)::bars) 3 (.ow 4 ((kC C a l).length+1) (ab (kC C a l++[x.n])))=true:=Ek (fun y hy=>by
         rcases List.mem_cons.1 hy with rfl|hy
         ·exact hBP7 _ (Nat.le_add_right ..)
         ·exact hbp y hy) (fun b hb=>by simp [hb])
       rw [hP,← hfin]
       generalize kC C a l=l' at *
       generalize mkS x.n.toNat S1 l'=S2 at *
       have s34':=s34 S2 l' (l'++[x.n])
       simp at s34'
       simp [hin] at htk1
       simp [eZ,hL,l0,l2,l3,l4,l5,l6,g0,g2,g3,g4,g5,g6,s2,a1,a2,n0,n80,nC,hS1,htk1,hset,ha,hres,hrec,hl1,hbo,s34',htk,aa,-getElem?_pos,List.getElem?_cons_zero,List.getElem?_cons_succ,List.getElem?_nil,ak,aw,aq,ax,ay,ag,af,take_set,ae,Nat.add_assoc]
     ·have hP:gX C l (x,k)=l:=by unfold gX; rw [xe (by simp [a2])]
      rw [hP]
      simp [eZ,hL,a1,a2,htk,aa,-getElem?_pos,List.getElem?_cons_zero,List.getElem?_cons_succ,List.getElem?_nil,ak,aw,aq,ax,ay,ag,af,take_set,ae,Nat.add_assoc]
    ·have hP:gX C l (x,k)=l:=by unfold gX; rw [xe (by simp [a1])]
     rw [hP]
     simp [eZ,hL,a1,htk,aa,-getElem?_pos,List.getElem?_cons_zero,List.getElem?_cons_succ,List.getElem?_nil,ak,aw,aq,ax,ay,ag,af,take_set,ae,Nat.add_assoc]) t ht 0 1 l ((L+ext.length)::bars) (ext++e) hf (by omega) (by omega) (fun y hy m hm'=>xf hf (by omega) hm hy hm') hl (fun y hy=>by
    rcases List.mem_cons.1 hy with rfl|hy
    ·exact hBP7 _ (Nat.le_add_right ..)
    ·exact hbp y hy)
  rw [← sD hC hf (by omega) (oL (by omega) t hm) hl] at this
  exact this.1
 have hea:=hea [.var (Enc.cells t)]
 simp at hea
 simp [pm,hL,l0,l2,l3,l4,l5,l6,hea,htk,aa,-getElem?_pos,List.getElem?_cons_zero,List.getElem?_cons_succ,List.getElem?_nil,ak,aw,aq,ax,ay,ag,af,take_set,ae,Nat.add_assoc]
end Go.Ev

namespace Go.Ev
theorem PW (B:Int):mkS B F80 []=F80:=(IW (by simp [F80]) fun k hk=>by
 unfold F80
 rw [List.getElem?_replicate,if_pos hk,List.getD_eq_getElem?_getD,List.getElem?_replicate,if_pos hk]
 split<;>simp).symm
theorem Ah {C:List Tm} (hC:CM C) (t:Tm) (h:t.ok) (hp:t.proper=true) (hm:t.mb C.length=true):az TT HH [] pT [.sl false (ab (C.map mu)),t.enc] []=some (.ret (.tup [.sl false (ab (kC C t [])),.i 0]),[]):=by
 rw [Dk]
 have hv:=Hk hC (Enc.cells t) C.length (Nat.le_refl _) t h hp hm F80 [] [0] [] (r0 C) (fun b hb=>by simp at hb; subst hb; exact .inl (by omega))
 rw [PW] at hv
 simp only [List.append_nil] at hv
 simp [NO,F80,List.replicate] at hv
 simp [rW,hv,aj,aa]
theorem Ai {C:List Tm} (hC:CM C) (t:Tm) (h:t.ok) (hp:t.proper=true) (hm:t.mb C.length=true):az TT HH [] pN [.sl false (ab (C.map mu)),t.enc] []=some (.ret (.tup [.sl false (ab (kC C t [])),.i 0]),[]):=by
 rw [C6]
 have h1:=au (rz hC t h hp hm) (by simp) (by simp)
 have h2:=au (Ah hC t h hp hm) (by simp) (by simp)
 simp [rO,h1,h2,aa]
def mA:List Int→Nat→List (Value×PV)
 | [],_=>[]
 | n::r,k=>(.int .i64 n,.i k)::mA r (k+1)
theorem El:∀ (l:List Int) (n:Int) (k:Nat),mA (l++[n]) k=mA l k++[(.int .i64 n,.i ((k+l.length:Nat):Int))]
 | [],n,k=>by simp [mA]
 | a::r,n,k=>by simp [mA,El r n (k+1)]; omega
theorem CC (n v:Int):∀ (l:List Int) (k:Nat),n ∉ l→rE false (mA l k) (.int .i64 n) (.i v)=some (mA l k++[(.int .i64 n,.i v)])
 | [],k,_=>by simp [mA,rE,mE]
 | a::r,k,h=>by
  simp only [List.mem_cons,not_or] at h
  have ih:=CC n v r (k+1) h.2
  have h':¬ a=n:=fun e=>h.1 e.symm
  simp only [mA,rE,mE,if_true,and_self,h',decide_false,ih]
  simp
theorem CD (n:Int):∀ (l:List Int) (k:Nat),n∈l→wr false (mA l k) (.int .i64 n)=some (some (.i (sv l n k)))
 | [],k,h=>by simp at h
 | a::r,k,h=>by
  unfold sv
  by_cases ha:n=a
  ·subst ha
   simp [mA,wr,mE]
  ·have h':¬ a=n:=fun e=>ha e.symm
   have ih:=CD n r (k+1) ((List.mem_cons.1 h).resolve_left ha)
   simp only [mA,wr,mE,if_true,and_self,h',decide_false,ih,if_neg ha]
   push_cast; rfl
theorem yO (l:List Int) (p q:Nat) (x:Tm) (b:Int) (bars:List Nat) (σ:Sto) (hp:σ[p]? = some (.var [.map q])) (hq:σ[q]? = some (.mp (mA l 0))) (hx:x.op=4→x.hd=3→x.n∈l) :
  RR TT HH bars dY [.agg [.i x.op,.i x.hd,.i x.n,.sl true []],.i b,.ptr p 0] σ=some (.ret (.agg [.i x.op,.i x.hd,.i (if x.op=4∧x.hd=3 then Du l x.n else x.n),.sl true []]),σ):=by
 rw [aX (by simp) (by simp),uq]
 have hpl:=bE hp
 have hql:=bE hq
 have t2:∀ a b:Ob,(σ++[a,b]).take σ.length=σ:=fun a b=>List.take_left
 by_cases a1:x.op=4
 ·by_cases a2:x.hd=3
  ·have hm:=hx a1 a2
   have hg:=CD x.n l 0 hm
   rw [if_pos ⟨a1,a2⟩]
   unfold Du
   rw [if_pos hm]
   simp at hg
   simp [eT,a1,a2,hp,hq,hpl,hql,hg,t2,-getElem?_pos,List.getElem?_cons_zero,List.getElem?_cons_succ,List.getElem?_nil,ak,aw,aq,ax,ay,ag,af,take_set,ae]
  ·rw [if_neg (fun h=>a2 h.2)]
   simp [eT,a1,a2,hp,hq,hpl,hql,t2,-getElem?_pos,List.getElem?_cons_zero,List.getElem?_cons_succ,List.getElem?_nil,ak,aw,aq,ax,ay,ag,af,take_set,ae]
 ·rw [if_neg (fun h=>a1 h.1)]
  simp [eT,a1,hp,hq,hpl,hql,t2,-getElem?_pos,List.getElem?_cons_zero,List.getElem?_cons_succ,List.getElem?_nil,ak,aw,aq,ax,ay,ag,af,take_set,ae]
theorem uN (l:List Int) (p q:Nat) (t:Tm) (ht:t.ok) (hpr:t.proper=true) (bars:List Nat) (σ:Sto) (hp:σ[p]? = some (.var [.map q])) (hq:σ[q]? = some (.mp (mA l 0))) (hx:∀ m,MI t m→m∈l) (hbr:∀ y∈bars,y≤σ.length) :
  RR TT HH bars b9 [t.enc,.ptr p 0] σ=some (.ret (gI l t).enc,σ):=by
 rw [aX (by simp) (by simp),vW]
 have hpl:=bE hp
 have hql:=bE hq
 have t2:∀ a b:Ob,(σ++[a,b]).take σ.length=σ:=fun a b=>List.take_left
 have hnn:=aI hpr
 have hmap:∀ a b:Ob,RR TT HH (σ.length::bars) fL [t.enc,.i 0,.fn (.func dY) [.ptr p 0]] (σ++[a,b])=some (.ret (gI l t).enc,σ++[a,b]):=fun a b=>by
  rw [aX (by simp) (by simp)]
  exact tq dY (by simp) [.ptr p 0] (fun op hd n _=>if op=4∧hd=3 then Du l n else n) σ (.inl (by simp)) (fun n hn=>by simp; omega) (fun y=>∀ m,cD 3 y=some m→m∈l)
   (fun x b bars ext hg=>yO l p q x b bars (σ++ext) (by rw [ak _ hpl]; exact hp) (by rw [ak _ hql]; exact hq) (fun h1 h2=>hg x.n (hval3.2 ⟨h1,h2,rfl⟩))) t ht 0 1 (σ.length::bars) [a,b] (ar hpr) (by omega) (by omega) (by omega) (fun y hy=>by
    simp only [List.mem_cons] at hy
    simp only [List.length_append]
    rcases hy with rfl|hy
    ·omega
    ·have:=hbr y hy; omega) (fun y hy m hm=>hx m ⟨y,hy,hm⟩)
 simp [lY,hpl,hmap,t2,aa,-getElem?_pos,List.getElem?_cons_zero,List.getElem?_cons_succ,List.getElem?_nil,ak,aw,aq,ax,ay,ag,af,take_set,ae]
end Go.Ev

namespace Go.Ev
def CP (g:List PV) (k7 k6:Nat):Sto:=[.var g,.var [.sl true [],.sl true []],.tok 1 k6,.tok 4 k7]
theorem Hl (l:List Int) (n:Int) (hl:l.length≤600) (id:Nat) (bars:List Nat) (σ:Sto):RR TT HH bars b0 [.ow id l.length (ab l),.i n] σ=some (.ret (.b (decide (n∈l))),σ):=by
 refine kH ?_ (by simp) (by simp) (by simp) bars σ
 have:=gW l n (by omega)
 rw [← this]
 simp
theorem Ug {C:List Tm} (hC:CM C) (args:List Tm) (ha:∀ x∈args,x.ok∧x.proper=true∧x.mb C.length=true) (hl:args.length≤600) (g:List PV) :
  LO TT HH [0] fP ([(2,.ptr 1 0),(4,.sl false (ab (C.map mu))),(6,.ow 2 0 []),(7,.ow 3 0 []),(38,.sl false (ab args)),(39,.i args.length),(40,.i 0)],CP g 0 0) =
   some (.exit 0,[(2,.ptr 1 0),(4,.sl false (ab (C.map mu))),(6,.ow 2 0 []),(7,.ow 3 args.length (ab args))],CP g args.length 0):=by
 have hlo:=be (T:=TT) (H:=HH) (b:=[0]) (A:=fP) args
  (fun i (l:List Tm)=>([(2,.ptr 1 0),(4,.sl false (ab (C.map mu))),(6,.ow 2 0 []),(7,.ow 3 l.length (ab l)),(38,.sl false (ab args)),(39,.i args.length),(40,.i i)],CP g l.length 0))
  (fun r i l=>(.exit 0,[(2,.ptr 1 0),(4,.sl false (ab (C.map mu))),(6,.ow 2 0 []),(7,.ow 3 (l++r).length (ab (l++r)))],CP g (l++r).length 0))
  (fun i l=>l.length=i)
  (fun l _=>by
   rw [aF]
   simp [fP,CP])
  (fun i x r l hx hm hd hi hl'=>by
   have e1:(i:Int)<args.length:=by omega
   have hw:IntKind.i64.wrap ((i:Int)+1)=(i:Int)+1:=ai _ (by omega) (by omega)
   obtain ⟨xo,xp,xm⟩:=ha x hm
   have hr:=au (rz hC x xo xp xm) (by simp) (by simp)
   have hl1:l.length+1≤LIM:=by unfold LIM; omega
   have hl2:i+1≤LIM:=by unfold LIM; omega
   refine .inr ⟨l++[x],?_,by simp [hl'],by simp⟩
   rw [aF]
   simp [fP,CP,e1,hx,hw,hr,hl1,hl2,aa,aj]) 0 [] (by omega) rfl
 simpa using hlo
theorem Uh (c l59:PV) (b4:below 0 c=true) (k7:Nat) (args:List Tm) (k59:List Tm) (n60 n61:Int) (m:List Int) (g xc:List PV) (hk:k7=args.length) (hm:m.length≤80):∀ (l:List Int),l.length≤80 →
  LO TT HH [4,0] ew ([(2,.ptr 1 0),(4,c),(6,.ow 2 l.length (ab l)),(7,.ow 3 k7 (ab args)),(59,.ow 3 k7 (ab args)),(60,.i n60),(61,.i n61),(75,.sl false (ab m)),(76,.i m.length),(77,.i 0)],CP g k7 l.length++[.var xc]) =
   some (.exit 4,[(2,.ptr 1 0),(4,c),(6,.ow 2 (m.foldl lj l).length (ab (m.foldl lj l))),(7,.ow 3 k7 (ab args)),(59,.ow 3 k7 (ab args)),(60,.i n60),(61,.i n61)],CP g k7 (m.foldl lj l).length++[.var xc]):=by
 intro l hl
 have b44:=bk (Nat.zero_le 5) c b4
 have hlo:=be (T:=TT) (H:=HH) (b:=[4,0]) (A:=ew) m
  (fun i (l:List Int)=>([(2,.ptr 1 0),(4,c),(6,.ow 2 l.length (ab l)),(7,.ow 3 k7 (ab args)),(59,.ow 3 k7 (ab args)),(60,.i n60),(61,.i n61),(75,.sl false (ab m)),(76,.i m.length),(77,.i i)],CP g k7 l.length++[.var xc]))
  (fun r i l=>(.exit 4,[(2,.ptr 1 0),(4,c),(6,.ow 2 (r.foldl lj l).length (ab (r.foldl lj l))),(7,.ow 3 k7 (ab args)),(59,.ow 3 k7 (ab args)),(60,.i n60),(61,.i n61)],CP g k7 (r.foldl lj l).length++[.var xc]))
  (fun i l=>l.length≤80+i)
  (fun l _=>by
   rw [aF]
   simp [ew,CP,b44])
  (fun i x r l hx hmm hd hi hl'=>by
   have e1:(i:Int)<m.length:=by omega
   have hw:IntKind.i64.wrap ((i:Int)+1)=(i:Int)+1:=ai _ (by omega) (by omega)
   have hct:=Hl l x (by omega) 2
   have hl1:l.length+1≤LIM:=by unfold LIM; omega
   refine .inr ⟨lj l x,?_,by unfold lj; split<;>(try simp)<;>omega,rfl⟩
   rw [aF]
   by_cases h:x∈l
   ·have hA:lj l x=l:=by simp [lj,h]
    rw [hA]
    simp [ew,CP,e1,hx,hw,hct,h,b44,aj]
   ·have hA:lj l x=l++[x]:=by simp [lj,h]
    rw [hA]
    simp [ew,CP,e1,hx,hw,hct,h,hl1,b44,aj]) 0 l (by omega) (by omega)
 simpa using hlo
theorem Ui {C:List Tm} (hC:CM C) (args:List Tm) (ha:∀ x∈args,x.ok∧x.proper=true∧x.mb C.length=true) (hl:args.length≤600) (g:List PV) :
  LO TT HH [0] fQ ([(2,.ptr 1 0),(4,.sl false (ab (C.map mu))),(6,.ow 2 0 []),(7,.ow 3 args.length (ab args)),(59,.ow 3 args.length (ab args)),(60,.i args.length),(61,.i 0)],CP g args.length 0) =
   some (.exit 2,[(2,.ptr 1 0),(4,.sl false (ab (C.map mu))),(6,.ow 2 (iH C args []).length (ab (iH C args []))),(7,.ow 3 args.length (ab args))],CP g args.length (iH C args []).length):=by
 have h80:=hC.len
 have hlo:=be (T:=TT) (H:=HH) (b:=[0]) (A:=fQ) args
  (fun i (l:List Int)=>([(2,.ptr 1 0),(4,.sl false (ab (C.map mu))),(6,.ow 2 l.length (ab l)),(7,.ow 3 args.length (ab args)),(59,.ow 3 args.length (ab args)),(60,.i args.length),(61,.i i)],CP g args.length l.length))
  (fun r i l=>(.exit 2,[(2,.ptr 1 0),(4,.sl false (ab (C.map mu))),(6,.ow 2 (iH C r l).length (ab (iH C r l))),(7,.ow 3 args.length (ab args))],CP g args.length (iH C r l).length))
  (fun i l=>OL C l)
  (fun l _=>by
   rw [aF]
   simp [fQ,CP,iH])
  (fun i x r l hx hm hd hi hol=>by
   have e1:(i:Int)<args.length:=by omega
   have hw:IntKind.i64.wrap ((i:Int)+1)=(i:Int)+1:=ai _ (by omega) (by omega)
   obtain ⟨xo,xp,xm⟩:=ha x hm
   have hr:=au (Ai hC x xo xp xm) (by simp) (by simp)
   obtain ⟨o1,-⟩:=Fv hC (ar xp) (by omega) xm
   have o2:=o1.len
   have e3:(kC C x []).length<9223372036854775808:=by omega
   have hl2:=Uh (.sl false (ab (C.map mu))) (.sl true []) (by simp) args.length args [] args.length i (kC C x []) g (Enc.cells x) rfl (by omega) l (by have:=hol.len; omega)
   refine .inr ⟨(kC C x []).foldl lj l,?_,IK hol o1,rfl⟩
   generalize kC C x []=m at *
   simp only [CP] at hl2
   simp at hl2
   rw [aF]
   simp [fQ,CP,e1,e3,hx,hw,hr,hl2,aa,aj]) 0 [] (by omega) (r0 C)
 simpa using hlo
theorem Uj (c:PV) (bc:below 0 c=true) (args:List Tm) (l:List Int) (hn:l.Nodup) (hl:l.length≤80) (σ4:Sto) (h4:σ4.length=4) :
  LO TT HH [0] fR ([(2,.ptr 1 0),(4,c),(6,.ow 2 l.length (ab l)),(7,.ow 3 args.length (ab args)),(18,.ptr 5 0),(92,.ow 2 l.length (ab l)),(93,.i l.length),(94,.i 0)],σ4++[.mp [],.var [.map 4]]) =
   some (.exit 6,[(2,.ptr 1 0),(4,c),(6,.ow 2 l.length (ab l)),(7,.ow 3 args.length (ab args)),(18,.ptr 5 0)],σ4++[.mp (mA l 0),.var [.map 4]]):=by
 have b6:=bk (Nat.zero_le 6) c bc
 obtain ⟨s0,s1,s2,s3,rfl⟩:∃ a b c d,σ4=[a,b,c,d]:=by
  match σ4,h4 with
  | [a,b,c,d],_=>exact ⟨a,b,c,d,rfl⟩
 have hlo:=be (T:=TT) (H:=HH) (b:=[0]) (A:=fR) l
  (fun i (m:List Int)=>([(2,.ptr 1 0),(4,c),(6,.ow 2 l.length (ab l)),(7,.ow 3 args.length (ab args)),(18,.ptr 5 0),(92,.ow 2 l.length (ab l)),(93,.i l.length),(94,.i i)],[s0,s1,s2,s3,.mp (mA m 0),.var [.map 4]]))
  (fun r i m=>(.exit 6,[(2,.ptr 1 0),(4,c),(6,.ow 2 l.length (ab l)),(7,.ow 3 args.length (ab args)),(18,.ptr 5 0)],[s0,s1,s2,s3,.mp (mA (m++r) 0),.var [.map 4]]))
  (fun i m=>m=l.take i)
  (fun m _=>by
   rw [aF]
   simp [fR,b6])
  (fun i x r m hx hm hd hi hmt=>by
   have e1:(i:Int)<l.length:=by omega
   have hw:IntKind.i64.wrap ((i:Int)+1)=(i:Int)+1:=ai _ (by omega) (by omega)
   have hml:m.length=i:=by rw [hmt,List.length_take]; omega
   have hxm:x ∉ m:=by
    rw [hmt]
    intro h
    have h2:l=l.take i++x::r:=by rw [← hd,List.take_append_drop]
    rw [h2] at hn
    exact (List.nodup_append.1 hn).2.2 x h x (by simp) rfl
   have hp:=CC x i m 0 hxm
   have ha:=El m x 0
   rw [hml,Nat.zero_add] at ha
   refine .inr ⟨m++[x],?_,by rw [hmt,List.take_add_one,hx]; rfl,by simp⟩
   rw [aF,ha]
   simp [fR,e1,hx,hw,hp,b6,aj]) 0 [] (by omega) rfl
 simpa [mA] using hlo
end Go.Ev

namespace Go.Ev
def CQ (g:List PV) (k7 k6:Nat) (l:List Int) (M:List Mt) (A:List Tm):Sto:=[.var g,.var [.sl true [],.sl true []],.tok 1 k6,.tok 4 k7,.mp (mA l 0),.var [.map 4],.var [.ow 7 M.length (ab M),.ow 8 A.length (ab A)],.tok 10 M.length,.tok 4 A.length]
theorem Uk {C:List Tm} (hC:CM C) (args:List Tm) (l:List Int) (hol:OL C l) (g:List PV) (k7 k6:Nat) :
  LO TT HH [0] fS ([(2,.ptr 1 0),(4,.sl false (ab (C.map mu))),(7,.ow 3 args.length (ab args)),(21,.fn (.func b9) [.ptr 5 0]),(22,.ptr 6 0),(104,.ow 2 l.length (ab l)),(105,.i l.length),(106,.i 0)],CQ g k7 k6 l [] []) =
   some (.exit 8,[(2,.ptr 1 0),(7,.ow 3 args.length (ab args)),(21,.fn (.func b9) [.ptr 5 0]),(22,.ptr 6 0)],CQ g k7 k6 l (l.map fun n=>mu (gI l (C.getD n.toNat tz))) []):=by
 have h80:=hC.len
 have hll:=hol.len
 have hlo:=be (T:=TT) (H:=HH) (b:=[0]) (A:=fS) l
  (fun i (M:List Mt)=>([(2,.ptr 1 0),(4,.sl false (ab (C.map mu))),(7,.ow 3 args.length (ab args)),(21,.fn (.func b9) [.ptr 5 0]),(22,.ptr 6 0),(104,.ow 2 l.length (ab l)),(105,.i l.length),(106,.i i)],CQ g k7 k6 l M []))
  (fun r i M=>(.exit 8,[(2,.ptr 1 0),(7,.ow 3 args.length (ab args)),(21,.fn (.func b9) [.ptr 5 0]),(22,.ptr 6 0)],CQ g k7 k6 l (M++r.map fun n=>mu (gI l (C.getD n.toNat tz))) []))
  (fun i M=>M.length=i)
  (fun M _=>by
   rw [aF]
   simp [fS,CQ])
  (fun i x r M hx hm hd hi hM=>by
   have e1:(i:Int)<l.length:=by omega
   have hw:IntKind.i64.wrap ((i:Int)+1)=(i:Int)+1:=ai _ (by omega) (by omega)
   obtain ⟨n0,n1⟩:=hol.lt x hm
   obtain ⟨a,ha,hga,ao,ap,-,-,am⟩:=uF hC n0 n1
   have hc:∀ bars σ,σ[5]? = some (Ob.var [.map 4])→σ[4]? = some (.mp (mA l 0))→(∀ y∈bars,y≤σ.length)→RR TT HH bars b9 [a.enc,.ptr 5 0] σ=some (.ret (gI l a).enc,σ):=fun bars σ h5 h4 hb=>uN l 5 4 a ao ap bars σ h5 h4 (fun m hmi=>hol.cl x hm m (by rw [hga]; exact hmi)) hb
   have hc1:=hc [9,0] (CQ g k7 k6 l M []) rfl rfl (by simp [CQ])
   have hl1:M.length+1≤LIM:=by unfold LIM; omega
   have hl2:i+1≤LIM:=by unfold LIM; omega
   refine .inr ⟨M++[mu (gI l (C.getD x.toNat tz))],?_,by simp [hM],by simp⟩
   rw [hga]
   generalize gI l a=c at *
   have hmu:=nD M c
   rw [aF]
   simp only [CQ] at hc1 ⊢
   simp at hc1
   simp [fS,e1,hx,hw,n0,n1,ha,hc1,hl1,hl2,hmu,aa,aj,-getElem?_pos,List.getElem?_cons_zero,List.getElem?_cons_succ,List.getElem?_nil,ak,aw,aq,ax,ay,ag,af,take_set,ae]) 0 [] (by omega) rfl
 simpa using hlo
theorem Ul {C:List Tm} (args:List Tm) (ha:∀ x∈args,x.ok∧x.proper=true∧x.mb C.length=true) (hal:args.length≤600) (l:List Int) (hml:∀ a∈args,∀ m,MI a m→m∈l) (g:List PV) (k7 k6:Nat) (M:List Mt) :
  LO TT HH [0] fT ([(2,.ptr 1 0),(21,.fn (.func b9) [.ptr 5 0]),(22,.ptr 6 0),(124,.ow 3 args.length (ab args)),(125,.i args.length),(126,.i 0)],CQ g k7 k6 l M []) =
   some (.exit 10,[(2,.ptr 1 0),(22,.ptr 6 0)],CQ g k7 k6 l M (args.map (gI l))):=by
 have hlo:=be (T:=TT) (H:=HH) (b:=[0]) (A:=fT) args
  (fun i (A:List Tm)=>([(2,.ptr 1 0),(21,.fn (.func b9) [.ptr 5 0]),(22,.ptr 6 0),(124,.ow 3 args.length (ab args)),(125,.i args.length),(126,.i i)],CQ g k7 k6 l M A))
  (fun r i A=>(.exit 10,[(2,.ptr 1 0),(22,.ptr 6 0)],CQ g k7 k6 l M (A++r.map (gI l))))
  (fun i A=>A.length=i)
  (fun A _=>by
   rw [aF]
   simp [fT,CQ])
  (fun i x r A hx hm hd hi hA=>by
   have e1:(i:Int)<args.length:=by omega
   have hw:IntKind.i64.wrap ((i:Int)+1)=(i:Int)+1:=ai _ (by omega) (by omega)
   obtain ⟨xo,xp,xm⟩:=ha x hm
   have hc1:=fun X=>uN l 5 4 x xo xp [9,0] (CQ g k7 k6 l M A++[X]) rfl rfl (fun m hmi=>hml x hm m hmi) (by simp [CQ])
   have hl1:A.length+1≤LIM:=by unfold LIM; omega
   have hl2:i+1≤LIM:=by unfold LIM; omega
   refine .inr ⟨A++[gI l x],?_,by simp [hA],by simp⟩
   generalize gI l x=c at *
   rw [aF]
   simp only [CQ] at hc1 ⊢
   simp at hc1
   simp [fT,e1,hx,hw,hc1,hl1,hl2,aa,aj]) 0 [] (by omega) rfl
 simpa using hlo
theorem qR {C:List Tm} (hC:CM C) (args:List Tm) (ha:∀ x∈args,x.ok∧x.proper=true∧x.mb C.length=true) (hal:args.length≤600) :
  az TT HH [] ff [.agg [.sl false (ab (C.map mu)),.sl false (ab args)]] []=some (.ret (.tup [.agg [.sl false (ab ((rq C args).1.map mu)),.sl false (ab (rq C args).2)],.i 0]),[]):=by
 rw [x5]
 have h80:=hC.len
 have hAll:=au (Dy hC false) (by simp) (by simp)
 obtain ⟨hol,-,hml⟩:=Fw hC args [] (fun x hx=>(ha x hx).2) (r0 C)
 have hll:=hol.len
 have g0:=Ug hC args ha hal [.sl false (ab (C.map mu)),.sl false (ab args)]
 have g1:=Ui hC args ha hal [.sl false (ab (C.map mu)),.sl false (ab args)]
 have g3:=Uj (.sl false (ab (C.map mu))) (by simp) args (iH C args []) hol.nd (by omega) (CP [.sl false (ab (C.map mu)),.sl false (ab args)] args.length (iH C args []).length) rfl
 have g4:=Uk hC args (iH C args []) hol [.sl false (ab (C.map mu)),.sl false (ab args)] args.length (iH C args []).length
 have g5:=Ul args ha hal (iH C args []) hml [.sl false (ab (C.map mu)),.sl false (ab args)] args.length (iH C args []).length ((iH C args []).map fun n=>mu (gI (iH C args []) (C.getD n.toNat tz)))
 unfold rq
 have hmm:(List.map (fun n=>gI (iH C args []) (C.getD n.toNat tz)) (iH C args [])).map mu=(iH C args []).map fun n=>mu (gI (iH C args []) (C.getD n.toNat tz)):=by rw [List.map_map]; rfl
 have e3:args.length<9223372036854775808:=by omega
 have e4:(iH C args []).length<9223372036854775808:=by omega
 rw [hmm]
 generalize hM:((iH C args []).map fun n=>mu (gI (iH C args []) (C.getD n.toNat tz)))=M at *
 have hMl:M.length=(iH C args []).length:=by rw [← hM,List.length_map]
 generalize iH C args []=l at *
 have hAA:(args.map (gI l)).length=args.length:=by simp
 generalize args.map (gI l)=A at *
 simp only [CP,CQ] at g0 g1 g3 g4 g5
 simp at g0 g1 g3 g4 g5
 simp [nQ,hAll,e3,e4,g0,g1,g3,g4,g5,aj]
end Go.Ev

namespace Go.Ev
theorem xu (t:Tm) (h:t.ok) (m:Int) (hp:t.proper=true):az TT HH [] mO [t.enc,.i m] []=some (.ret (.b (clT t m)),[]):=by
 rw [zG,KB]
 have hf:=ar hp
 have hn:=aI hp
 have h1:=au (tC t h 1 hf (by omega) (by omega)) (by simp) (by simp)
 have h2:=au (uy t h 1 hf (by omega) (by omega)) (by simp) (by simp)
 have h3:=au (yr t h 1 hf (by omega) (by omega)) (by simp) (by simp)
 have l1:=sq 1 (t.nds 0) []
 have l2:=sq 2 (t.nds 0) []
 have l3:=sq 3 (t.nds 0) []
 rw [p9,List.length_nil] at l1 l2 l3
 generalize cY 1 (t.nds 0) []=a1 at *
 generalize cY 2 (t.nds 0) []=a2 at *
 generalize cY 3 (t.nds 0) []=a3 at *
 have m1:a1.length<2 ^ 63:=by omega
 have m2:a2.length<2 ^ 63:=by omega
 have m3:a3.length<2 ^ 63:=by omega
 by_cases e1:a1=[]
 rotate_left
 ·have:¬ (a1.length:Int)=0:=by cases a1<;>simp at e1 ⊢; omega
  simp [gv,h1,h2,h3,m1,m2,m3,e1,this,aa]
 by_cases e3:a3=[]
 rotate_left
 ·have:¬ (a3.length:Int)=0:=by cases a3<;>simp at e3 ⊢; omega
  simp [gv,h1,h2,h3,m1,m2,m3,e1,e3,this,aa]
 rcases List.eq_nil_or_concat a2 with e2|⟨l,x,e2⟩
 ·subst e1; subst e2; subst e3
  simp at h1 h2 h3
  simp [gv,h1,h2,h3,aa,yn]
 ·rw [List.concat_eq_append] at e2
  subst e1; subst e2; subst e3
  simp at h1 h2 h3 m2
  have hw:IntKind.i64.wrap ((l.length:Int)+1 - 1)=l.length:=by rw [ai _ (by omega) (by omega)]; omega
  have hw':IntKind.i64.wrap (l.length:Int)=l.length:=ai _ (by omega) (by omega)
  have hne:¬ (l.length:Int)+1=0:=by omega
  have hg:∀ h,(ab (l++[x]))[l.length]'h=[PV.i x]:=fun h=>by simp [ab]
  simp [gv,h1,h2,h3,m2,hw,hw',hne,aa,yn,hg]
def dup (sig:List Dc) (s:ByteArray):Bool:=sig.any fun x=>decide (x.name=s)
theorem xv (before:List Dc) (d:Dc) (hl:before.length≤1000) (hb:∀ x∈before,x.class_.formed 1=true) (hd:d.ok):az TT HH [] mL [.sl false (ab before),d.enc] []=some (.ret (.b (okD before d && !dup before d.name)),[]):=by
 rw [zA]
 have hns:d.name.size<2 ^ 63:=ml hd.1
 have hbl:before.length<2 ^ 63:=by omega
 have h1:=au (wW d.name hns) (by simp) (by simp)
 have h2:=au (bN d.class_ hd.2.1) (by simp) (by simp)
 unfold okD
 by_cases hc:wT d.name=true
 rotate_left
 ·simp only [Bool.not_eq_true] at hc
  rw [hc] at h1
  simp [b7,h1,hc,aa]
 rw [hc] at h1
 by_cases hp:d.class_.proper=true
 rotate_left
 ·simp only [Bool.not_eq_true] at hp
  rw [hp] at h2
  simp [b7,h1,h2,hc,hp,aa]
 have h3:=au (xu d.class_ hd.2.1 before.length hp) (by simp) (by simp)
 rw [hp] at h2
 by_cases hcl':clT d.class_ before.length=true
 rotate_left
 ·simp only [Bool.not_eq_true] at hcl'
  rw [hcl'] at h3
  simp [b7,h1,h2,h3,hc,hp,hbl,hcl',aa]
 have hlo:=be (T:=TT) (H:=HH) (b:=[0]) (A:=jx) before
  (fun i (_:Unit)=>([(0,.sl false (ab before)),(3,.ptr 0 0),(27,.sl false (ab before)),(28,.i before.length),(29,.i i)],[.var (Enc.cells d)]))
  (fun r i _=>if dup r d.name then (.ret,[(4,.b false)],[.var (Enc.cells d)]) else (.exit 0,[(0,.sl false (ab before)),(3,.ptr 0 0)],[.var (Enc.cells d)]))
  (fun _ _=>True)
  (fun _ _=>by
   rw [aF]
   simp [jx,dup])
  (fun i x r _ hx hm hdr hi _=>by
   have e1:(i:Int)<before.length:=by omega
   have hw:IntKind.i64.wrap ((i:Int)+1)=(i:Int)+1:=ai _ (by omega) (by omega)
   rw [aF]
   by_cases h:x.name=d.name<;>simp [-List.any_eq_true,jx,e1,hx,hw,h,dup]) 0 () (by omega) trivial
 simp only [List.drop_zero] at hlo
 have hf:=ar hp
 have h4:=au (kB d.class_ hf) (by simp) (by simp)
 have hdl:(Tm.doms 40 d.class_).length<2 ^ 63:=by have:=lh 40 d.class_; omega
 simp only [hp,hc,hcl',Bool.true_and,Bool.and_true]
 rw [hcl'] at h3
 obtain ⟨k,hk⟩:=GU 40 d.class_ 0
 have hsh:=(kA hf (by omega) hk).1
 have hcl:=List.all_eq_true.1 (show (d.class_.nds 0).all (clN before.length)=true from hcl') _ hk
 have hne:=GS 40 d.class_ 1 hf (by omega)
 generalize Tm.core 40 d.class_=c at *
 cases hdp:dup before d.name with
 | true =>
  simp [hdp] at hlo
  simp [b7,h1,h2,h3,hbl,hlo,aa]
 | false =>
  simp [hdp] at hlo
  by_cases o1:c.op=1
  ·by_cases hi:0≤d.imp
   ·simp [b7,h1,h2,h3,h4,hbl,hlo,hdl,aa,o1,tgt,hi]
   ·simp [b7,h1,h2,h3,h4,hbl,hlo,hdl,aa,o1,tgt,hi]
  by_cases o4:c.op=4
  ·by_cases o5:c.hd=2
   ·simp [clN,o4,o5] at hcl
    obtain ⟨_,_,n0,_⟩:=jq hsh o4
    obtain ⟨x,hxm,hx,hfam⟩:=Ea n0 hcl
    have h7:=au (rn before c.n x n0 hx (hb x hxm)) (by simp) (by simp)
    cases hfa:fd before c.n with
    | true =>
     rw [hfa] at h7
     by_cases hi:0≤d.imp
     ·simp [b7,h1,h2,h3,h4,h7,hbl,hlo,hdl,aa,o4,o5,tgt,hi,hfa]
     ·simp [b7,h1,h2,h3,h4,h7,hbl,hlo,hdl,aa,o4,o5,tgt,hi,hfa]
    | false =>
     rw [hfa] at h7
     simp [b7,h1,h2,h3,h4,h7,hbl,hlo,hdl,aa,o4,o5,tgt,hfa]
   ·simp [b7,h1,h2,h3,h4,hbl,hlo,hdl,aa,o4,o5,tgt]
  ·simp [b7,h1,h2,h3,h4,hbl,hlo,hdl,aa,o1,o4,tgt]
theorem rA (sig:List Dc) (hl:sig.length≤maxLen) (hs:∀ d∈sig,d.ok):az TT HH [] jI [.sl false (ab sig)] []=some (.ret (.b (fD sig)),[]):=by
 rw [zx]
 have hl':=ml hl
 by_cases h100:sig.length≤100
 ·have hlo:=be (T:=TT) (H:=HH) (b:=[0]) (A:=dV) sig
   (fun i (_:Unit)=>([(0,.sl false (ab sig)),(3,.i i)],[]))
   (fun r i _=>if sgF (sig.take i) r then (.exit 0,[(0,.sl false (ab sig))],[]) else (.ret,[(2,.b false)],[]))
   (fun i _=>∀ x∈sig.take i,x.class_.formed 1=true)
   (fun _ _=>by
    rw [aF]
    simp [dV,sgF,hl'])
   (fun i x r _ hx hm hdr hi hv=>by
    have e1:(i:Int)<sig.length:=by omega
    have e2:(i:Int)≤sig.length:=by omega
    have e3:i≤sig.length:=by omega
    have h100':(sig.length:Int)≤100:=by omega
    have hw:IntKind.i64.wrap ((i:Int)+1)=(i:Int)+1:=ai _ (by omega) (by omega)
    have hc:=au (xv (sig.take i) x (by simp; omega) hv (hs x hm)) (by simp) (by simp)
    have htk:sig.take (i+1)=sig.take i++[x]:=by rw [List.take_add_one,hx]; rfl
    have hdu:dup (sig.take i) x.name=(sig.take i).any fun y=>decide (y.name=x.name):=rfl
    cases hk:okD (sig.take i) x && !dup (sig.take i) x.name with
    | true =>
     rw [hk] at hc
     refine .inr ⟨(),?_,?_,?_⟩
     ·rw [aF]
      simp [dV,e1,e2,e3,hx,hw,hl',h100,h100',hc,a8]
     ·rw [htk]
      intro y hy
      rcases List.mem_append.1 hy with hy|hy
      ·exact hv y hy
      ·rw [List.mem_singleton] at hy
       subst hy
       simp only [Bool.and_eq_true] at hk
       have:=hk.1
       simp only [okD,Bool.and_eq_true] at this
       exact ar this.1.1.1.1.1
     ·rw [htk,sgF,← hdu,hk,Bool.true_and]
    | false =>
     rw [hk] at hc
     refine .inl ⟨?_,?_⟩
     ·rw [aF,sgF,← hdu,hk]
      simp [dV,e1,e2,e3,hx,hw,hl',h100,h100',hc,a8]
     ·rw [sgF,← hdu,hk]; simp) 0 () (by omega) (by simp)
  simp at hlo
  unfold fD
  cases hk:sgF [] sig<;>simp [hk] at hlo<;>(have h100':(sig.length:Int)≤100:=by omega)<;>simp [ly,hlo,hl',h100,h100']
 ·have hlo:LO TT HH [0] dV ([(0,.sl false (ab sig)),(3,.i 0)],[])=some (.exit 0,[(0,.sl false (ab sig))],[]):=by
   rw [aP,aF]
   have:¬ (sig.length:Int)≤100:=by omega
   have h0:0<sig.length:=by omega
   simp [dV,hl',this,h0,h100]
  unfold fD
  have h100':¬ (sig.length:Int)≤100:=by omega
  simp [ly,hlo,hl',h100,h100']
end Go.Ev

namespace Go.Ev
def zt (l:List ByteArray):List (Value×PV):=l.map fun s=>(.string s,.b true)
def inL (l:List ByteArray) (s:ByteArray):Bool:=l.any fun x=>decide (x=s)
theorem CE (s:ByteArray):∀ l,wr true (zt l) (.string s)=some (if inL l s=true then some (.b true) else none)
 | []=>by simp [zt,wr,inL]
 | a::r=>by
  have ih:=CE s r
  simp only [zt,List.map_cons,wr,mE,if_true,inL,List.any_cons] at ih ⊢
  by_cases h:a=s
  ·simp [h]
  ·simp only [h,decide_false,ih,Bool.false_or]
   first|rfl|(split<;>simp_all)
theorem CF (s:ByteArray):∀ l,inL l s=false→rE true (zt l) (.string s) (.b true)=some (zt (l++[s]))
 | [],_=>by simp [zt,rE,mE]
 | a::r,hn=>by
  simp only [inL,List.any_cons,Bool.or_eq_false_iff,decide_eq_false_iff_not] at hn
  have ih:=CF s r hn.2
  simp only [zt,List.map_cons,rE,mE,if_true] at ih ⊢
  simp only [hn.1,decide_false,ih]
  simp
def R5:IC:=(rs [mv 4 12] [2,3,4,13] (rg [al 5 z3,st 6 5 13] [2,3,4,5]))
def ND:IC:=(.block 1 (.seq (rs [ld 14 3,fa 15 0 5,ld 16 15,o_ 17 (.lookup true (.b false) (.t 14) (.t 16) false),mv 18 17,gf (mv 19 4) 18,gf (ln 20 6 5) 18,gf (cl 21 la [19,20]) 18,gf (nt 22 21) 18,po 23 18 22] [2,3,5,23] (cd 23 (rs [p_ (.store 1 (.t 2) (.c (.i 2)))] [] (.ret [])) ik)) (rg [ld 24 3,fa 25 0 5,ld 26 25,p_ (.mupd true (.t 24) (.t 26) (.c (.b true)))] [])))
def CS (sig:List Dc) (names:List ByteArray) (rv:Int) (st:Nat) (pend:Option (Option Nat)):Sto :=
 [.var [.i rv],.mp (zt names),.var [.map 1],.var [.sl false (ab sig)],.loop [(2,.ptr 0 0),(3,.ptr 2 0)] [12,13] R5 ND st pend]
def nms (l:List Dc):List ByteArray:=l.map (·.name)
theorem PX (l:List Dc) (s:ByteArray):dup l s=inL (nms l) s:=by
 simp only [dup,nms,inL,List.any_map]; rfl
theorem KW (sig before:List Dc) (x:Dc) (bars:List Nat) (hl:before.length≤1000) (hb:∀ x∈before,x.class_.formed 1=true) (hx:x.ok) :
  RR TT HH bars (YB+4) [.sl false (ab before),x.enc] (CS sig (nms before) 0 0 none++[.var (Enc.cells x)]) =
  if okD before x && !dup before x.name then some (.ret (.b true),CS sig (nms (before++[x])) 0 0 none++[.var (Enc.cells x)]) else some (.ret (.b false),CS sig (nms before) 2 2 (some none)++[.var (Enc.cells x)]):=by
 rw [Nk (env:=[(2,.ptr 0 0),(3,.ptr 2 0)]) (ps:=[12,13]) (asg:=R5) (bd:=ND) rfl rfl]
 have h1:=au (yy before x hl hb hx) (by simp) (by simp)
 have h2:=CE x.name (nms before)
 have h3:=CF x.name (nms before)
 rw [PX]
 have hap:nms (before++[x])=nms before++[x.name]:=by simp [nms]
 rw [hap]
 unfold CS
 generalize nms before=N at *
 simp only [R5,lm]
 simp
 simp [kR1]
 cases hd:inL N x.name
 ·have h3:=h3 hd
  cases hk:okD before x
  ·rw [hk] at h1
   simp [ND,hd,h1,h2,a8,kR2,DE]
  ·rw [hk] at h1
   simp [ND,hd,h1,h2,h3,a8,kR2,DE]
 ·simp [ND,hd,h2,kR2,DE]
theorem PY {T:FuncId→Option IF} {H:gk} {f:FuncId} {args:List PV} {r:Out} {x:Ob} {s:Sto} (h:az T H [] f args []=some (r,x::s)) (hb:below.belowAll 0 args=true) (hf:f<YB) (bars:List Nat) (σ:Sto):RR T H bars f args σ=az T H bars f args σ:=by
 unfold RR xcall lV
 rw [if_pos (by rw [hb,decide_eq_true hf]; rfl),h]
 simp only [j9]
theorem CG (sig:List Dc) (bars:List Nat) (σ:Sto):RR TT HH bars oV [.sl false (ab sig)] σ=some (.ret (.fn (.func eM) [.ptr σ.length 0]),σ++[.var [.sl false (ab sig)]]):=by
 have key:∀ (bars:List Nat) (σ:Sto),az TT HH bars oV [.sl false (ab sig)] σ=some (.ret (.fn (.func eM) [.ptr σ.length 0]),σ++[.var [.sl false (ab sig)]]):=fun bars σ=>by
  rw [Fe]
  simp [te]
 rw [PY (key [] []) (by simp) (by simp),key]
def sgN (before:List Dc):List Dc→List Dc
 | []=>before
 | d::r=>if okD before d && !dup before d.name then sgN (before++[d]) r else before
theorem CH (b:List Dc) (d:Dc) (r:List Dc):sgF b (d::r)=(okD b d && !dup b d.name && sgF (b++[d]) r):=rfl
theorem yP (sig:List Dc) (hl:sig.length≤100) (hs:∀ d∈sig,d.ok) (bars:List Nat):az TT HH bars eM [.yld 4,.ptr 3 0] (CS sig [] 0 0 none) =
  some (.ret (.tup []),if sgF [] sig then CS sig (nms (sgN [] sig)) 0 0 none else CS sig (nms (sgN [] sig)) 2 2 (some none)):=by
 rw [B4]
 have hl':sig.length<2 ^ 63:=by omega
 have hlo:=be (T:=TT) (H:=HH) (b:=5::bars) (A:=iE) sig
  (fun i (_:Unit)=>([(0,.yld 4),(1,.ptr 3 0),(5,.sl false (ab sig)),(6,.i sig.length),(7,.i i)],CS sig (nms (sig.take i)) 0 0 none))
  (fun r i _=>if sgF (sig.take i) r then (.exit 0,[],CS sig (nms (sgN (sig.take i) r)) 0 0 none) else (.ret,[],CS sig (nms (sgN (sig.take i) r)) 2 2 (some none)))
  (fun i _=>∀ x∈sig.take i,x.class_.formed 1=true)
  (fun _ _=>by
   rw [aF]
   simp [iE,sgF,sgN,CS])
  (fun i x r _ hx hm hdr hi hv=>by
   have e1:(i:Int)<sig.length:=by omega
   have e2:(i:Int)≤sig.length:=by omega
   have e3:i≤sig.length:=by omega
   have hw:IntKind.i64.wrap ((i:Int)+1)=(i:Int)+1:=ai _ (by omega) (by omega)
   have hc:=fun bars=>KW sig (sig.take i) x bars (by simp; omega) hv (hs x hm)
   have htk:sig.take (i+1)=sig.take i++[x]:=by rw [List.take_add_one,hx]; rfl
   cases hk:okD (sig.take i) x && !dup (sig.take i) x.name with
   | true =>
    simp only [hk,CS,if_true,wM,List.cons_append,List.nil_append] at hc
    refine .inr ⟨(),?_,?_,?_⟩
    ·rw [aF,htk]
     simp [iE,e1,e2,e3,hx,hw,hl',hc,a8,CS]
    ·rw [htk]
     intro y hy
     rcases List.mem_append.1 hy with hy|hy
     ·exact hv y hy
     ·rw [List.mem_singleton] at hy
      subst hy
      simp only [Bool.and_eq_true] at hk
      have:=hk.1
      simp only [okD,Bool.and_eq_true] at this
      exact ar this.1.1.1.1.1
    ·rw [htk,CH,hk,Bool.true_and,sgN,hk,if_pos rfl]
   | false =>
    simp only [hk,CS,wM,List.cons_append,List.nil_append,Bool.false_eq_true,if_false] at hc
    refine .inl ⟨?_,?_⟩
    ·rw [aF,CH,hk,Bool.false_and,sgN,hk]
     simp [iE,e1,e2,e3,hx,hw,hl',hc,a8,CS]
    ·rw [CH,hk]; simp) 0 () (by omega) (by simp)
 simp only [List.drop_zero,List.take_zero] at hlo
 cases hk:sgF [] sig<;>simp [hk,CS,nms] at hlo<;>simp [qF,CS,hlo,hl',nms]
theorem Aj (sig:List Dc) (hl:sig.length≤maxLen) (hs:∀ d∈sig,d.ok):az TT HH [] kh [.sl false (ab sig)] []=some (.ret (.i (if fD sig then 0 else 2)),[]):=by
 rw [Dm]
 have hl':=ml hl
 unfold fD
 by_cases h100:sig.length≤100
 ·have h100':¬ 100<(sig.length:Int):=by omega
  have h1:=fun bars=>CG sig bars [.var [.i 0],.mp [],.var [.map 1]]
  have h2:∀ bars,RR TT HH bars eM [.yld 4,.ptr 3 0] (CS sig [] 0 0 none)=_:=fun bars=>by rw [aX (by simp) (by simp),yP sig h100 hs bars]
  simp at h1
  simp [oH,hl',h100',h1,aj]
  cases hk:sgF [] sig with
  | true =>
   simp only [hk,if_true] at h2
   refine (AE (g:=eM) (cap:=[.ptr 3 0]) rfl (by simp) (h2 _) rfl rfl).trans ?_
   simp [CS,h100]
  | false =>
   simp only [hk] at h2
   refine (AE (g:=eM) (cap:=[.ptr 3 0]) rfl (by simp) (h2 _) rfl rfl).trans ?_
   simp [CS,h100]
 ·have h100':100<(sig.length:Int):=by omega
  simp [oH,hl',h100',h100]
end Go.Ev

namespace Go.Ev
def sb (sig:List Dc) (n:Int):Bool:=decide (0≤n) && decide (n<sig.length)
def pz (sig:List Dc) (n:Int):Int:=if fD sig then (if sb sig n then 0 else 6) else 2
theorem vI (sig:List Dc) (hl:sig.length≤maxLen) (hs:∀ d∈sig,d.ok) (n:Int):az TT HH [] qo [.sl false (ab sig),.i n] []=some (.ret (.i (pz sig n)),[]):=by
 rw [GJ]
 have h1:=au (Aj sig hl hs) (by simp) (by simp)
 have e3:=ml hl
 unfold pz sb
 cases hk:fD sig with
 | false =>
  rw [hk] at h1
  simp [mt,h1]
 | true =>
  rw [hk] at h1
  by_cases a:n<0
  ·have a':¬ 0≤n:=by omega
   simp [mt,h1,e3,a,a']
  ·have a':0≤n:=by omega
   by_cases b:n<sig.length
   ·have b':¬ (sig.length:Int)≤n:=by omega
    simp [mt,h1,e3,a,a',b,b']
   ·have b':(sig.length:Int)≤n:=by omega
    simp [mt,h1,e3,a,a',b,b']
theorem xw {sig:List Dc} {n:Int} (h:sb sig n=true):∃ d,sig[n.toNat]? = some d∧d∈sig∧0≤n∧n<sig.length:=by
 unfold sb at h
 simp only [Bool.and_eq_true,decide_eq_true_eq] at h
 obtain ⟨d,h1,h2,-⟩:=eQ (l:=sig) (i:=n.toNat) (by omega)
 exact ⟨d,h1,h2,h.1,h.2⟩
theorem oa (sig:List Dc) (n:Int) (d:Dc) (h0:0≤n) (hd:sig[n.toNat]? = some d) (h:d.class_.formed 1=true):az TT HH [] gO [.sl false (ab sig),.i n] []=some (.ret (.b (fd sig n)),[]):=by
 rw [Bx]
 have h1:=au (qK d.class_ h) (by simp) (by simp)
 have hlt:n<sig.length:=by have:=(List.getElem?_eq_some_iff.1 hd).1; omega
 simp [qt,h0,hlt,hd,h1,fd,aa,-getElem?_pos,List.getElem?_cons_zero,List.getElem?_cons_succ,List.getElem?_nil,ak,aw,aq,ax,ay,ag,af,take_set,ae]
theorem wi (sig:List Dc) (hl:sig.length≤maxLen) (hs:∀ d∈sig,d.ok) (n:Int):az TT HH [] ls [.sl false (ab sig),.i n] []=some (.ret (.tup [.b (decide (pz sig n=0) && fd sig n),.i (pz sig n)]),[]):=by
 rw [x6]
 have h1:=au (vI sig hl hs n) (by simp) (by simp)
 by_cases he:pz sig n=0
 ·rw [he] at h1
  have hk:fD sig=true∧sb sig n=true:=by
   unfold pz at he
   cases hk:fD sig<;>cases hn:sb sig n<;>simp [hk,hn] at he ⊢
  obtain ⟨d,hd,hm,h0,hlt⟩:=xw hk.2
  have h2:=au (oa sig n d h0 hd (ar (nZ hk.1 hm).1)) (by simp) (by simp)
  simp [ko,h1,h2,he]
 ·simp [ko,h1,he]
theorem CI (sig:List Dc) (n:Int) (d:Dc) (h0:0≤n) (hd:sig[n.toNat]? = some d) (h:d.class_.formed 1=true):az TT HH [] rc [.sl false (ab sig),.i n] []=some (.ret (.i (if fd sig n then n else (Tm.core 40 d.class_).n)),[]):=by
 rw [E6]
 have h1:=au (oa sig n d h0 hd h) (by simp) (by simp)
 have h2:=au (sr d.class_ h) (by simp) (by simp)
 have hlt:n<sig.length:=by have:=(List.getElem?_eq_some_iff.1 hd).1; omega
 cases hf:fd sig n<;>rw [hf] at h1<;>simp [s5,h0,hlt,hd,h1,h2,aa,-getElem?_pos,List.getElem?_cons_zero,List.getElem?_cons_succ,List.getElem?_nil,ak,aw,aq,ax,ay,ag,af,take_set,ae]
def tr (sig:List Dc) (n:Int):Int:=if pz sig n=0 then (if fd sig n then 0 else 22) else pz sig n
theorem FC (sig:List Dc) (hl:sig.length≤maxLen) (hs:∀ d∈sig,d.ok) (n:Int):∃ l:List Int,az TT HH [] qd [.sl false (ab sig),.i n] []=some (.ret (.tup [.sl false (ab l),.i (tr sig n)]),[]):=by
 rw [Iy]
 have h1:=au (vI sig hl hs n) (by simp) (by simp)
 have e3:=ml hl
 unfold tr
 by_cases he:pz sig n=0
 ·rw [he] at h1
  have hk:fD sig=true∧sb sig n=true:=by
   unfold pz at he
   cases hk:fD sig<;>cases hn:sb sig n<;>simp [hk,hn] at he ⊢
  have h100:=KC hk.1
  obtain ⟨d,hd,hm,h0,hlt⟩:=xw hk.2
  have h2:=au (oa sig n d h0 hd (ar (nZ hk.1 hm).1)) (by simp) (by simp)
  cases hf:fd sig n with
  | false =>
   rw [hf] at h2
   refine ⟨[],?_⟩
   simp [qr,h1,h2,he]
  | true =>
   rw [hf] at h2
   have hlo:=gJ (T:=TT) (H:=HH) (b:=[0]) (A:=kp) sig
    (fun i (l:List Int)=>([(0,.sl false (ab sig)),(1,.i n),(7,.ow 0 l.length (ab l)),(20,.i sig.length),(21,.i i)],[.tok 1 l.length]))
    (fun r i l y=>∃ l:List Int,y=(.exit 0,[(7,.ow 0 l.length (ab l))],[.tok 1 l.length]))
    (fun i l=>l.length≤i)
    (fun l _=>by
     refine ⟨_,?_,by simp,l,rfl⟩
     rw [aF]
     simp [kp])
    (fun i x r l hx hmm hdd hi hli=>by
     have e1:(i:Int)<sig.length:=by omega
     have hw:IntKind.i64.wrap ((i:Int)+1)=(i:Int)+1:=ai _ (by omega) (by omega)
     have hh:=au (CI sig i x (by omega) (by simpa using hx) (ar (nZ hk.1 hmm).1)) (by simp) (by simp)
     have hl1:l.length+1≤LIM:=by unfold LIM; omega
     generalize (if fd sig (i:Int) then (i:Int) else (Tm.core 40 x.class_).n)=hd' at hh
     by_cases hi1:(i:Int)=n
     ·refine .inr ⟨l,?_,by omega,fun y hy=>hy⟩
      rw [aF]
      subst hi1
      simp [kp,e1,hw,aj]
     ·by_cases hd1:hd'=n
      ·rw [hd1] at hh
       refine .inr ⟨l++[(i:Int)],?_,by simp; omega,fun y hy=>hy⟩
       rw [aF]
       simp [kp,e1,hw,hi1,hh,hl1,aj]
      ·refine .inr ⟨l,?_,by omega,fun y hy=>hy⟩
       rw [aF]
       simp [kp,e1,hw,hi1,hh,hd1,aj]) 0 [] (by omega) (by simp)
   obtain ⟨y,hy,l,rfl⟩:=hlo
   simp at hy
   refine ⟨l,?_⟩
   simp [qr,h1,h2,he,e3,hy]
 ·refine ⟨[],?_⟩
  simp [qr,h1,he]
theorem xx (sig:List Dc) (hl:sig.length≤maxLen) (hs:∀ d∈sig,d.ok) (n:Int):az TT HH [] jJ [.sl false (ab sig),.i n] []=some (.ret (.i (tr sig n)),[]):=by
 rw [zy]
 obtain ⟨l,h1⟩:=FC sig hl hs n
 have h1:=au h1 (by simp) (by simp)
 simp [pd,h1]
theorem sF (sig:List Dc) (n:Int) (d:Dc) (h0:0≤n) (hd:sig[n.toNat]? = some d) (h:d.class_.formed 1=true):az TT HH [] ji [.sl false (ab sig),.i n] []=some (.ret (.i (Tm.doms 40 d.class_).length),[]):=by
 rw [Bv]
 have h1:=au (dX d.class_ h) (by simp) (by simp)
 have hlt:n<sig.length:=by have:=(List.getElem?_eq_some_iff.1 hd).1; omega
 have hdl:=lh 40 d.class_
 have e3:(Tm.doms 40 d.class_).length<9223372036854775808:=by omega
 simp [qq,h0,hlt,hd,h1,e3,aa,-getElem?_pos,List.getElem?_cons_zero,List.getElem?_cons_succ,List.getElem?_nil,ak,aw,aq,ax,ay,ag,af,take_set,ae]
theorem tT (c:Tm) (h:c.ok) (hp:c.proper=true) (h2:c.op=2):az TT HH [] iR [c.enc] []=some (.ret (.b (!(occ c.bod 0))),[]):=by
 rw [vm]
 obtain ⟨a,b,hab,ha,hb⟩:=cz (ar hp) h2
 have h1:=au (yx b (h.sub b (by rw [hab]; simp)) (aR hp (by rw [hab]; simp))) (by simp) (by simp)
 rw [(uE hab).2]
 simp [kP,hab,h1,aB,aa]
end Go.Ev

namespace Go.Ev
def plL (v:Bool):List Bool→Int→List Int
 | [],_=>[]
 | d::r,n=>if d=v then n::plL v r (n+1) else plL v r (n+1)
theorem tu (k:Nat) (t:Tm):(bv k t).length≤k:=by rw [xd]; exact lh k t
def PSt (c:Tm) (dp pr:List Int):Sto:=[.var [.i c.op,.i c.hd,.i c.n,.sl false (ab c.args)],.var [.ow 2 0 [],.ow 3 0 []],.tok 1 0,.tok 1 0,.var [.ow 5 dp.length (ab dp),.ow 6 pr.length (ab pr)],.tok 1 dp.length,.tok 1 pr.length]
theorem NE:∀ (j:Nat) (t:Tm) (d:Int) (n:Nat) (dp pr:List Int),t.ok→t.proper=true→t.formed d=true→41 - d≤j→n+j≤100→dp.length≤n→pr.length≤n →
  LO TT HH [0] cv ([(1,.ptr 0 0),(2,.ptr 1 0),(3,.ptr 4 0),(4,.i n)],PSt t dp pr)=some (.exit 0,[(2,.ptr 1 0),(3,.ptr 4 0)],PSt (Tm.core j t) (dp++plL true (bv j t) n) (pr++plL false (bv j t) n)):=by
 intro j
 induction j with
 | zero=>intro t d n dp pr _ _ h hj; have:=dK h; omega
 | succ j ih =>
  intro t d n dp pr hok hp hf hj hn hd hpr
  by_cases h2:t.op=2
  ·obtain ⟨a,b,hab,ha,hb⟩:=cz hf h2
   have hbo:=(uE hab).2
   have hbp:=aR hp (x:=b) (by rw [hab]; simp)
   have hbk:=hok.sub b (by rw [hab]; simp)
   have his:=au (tT t hok hp h2) (by simp) (by simp)
   rw [hbo,II] at his
   have hce:t.enc=.agg [.i 2,.i t.hd,.i t.n,.sl false [[.i a.op,.i a.hd,.i a.n,.sl false (ab a.args)],[.i b.op,.i b.hd,.i b.n,.sl false (ab b.args)]]]:=by simp [Tm.enc,h2,hab,aB]
   rw [hce] at his
   rw [yC h2 hab,mw h2 hab]
   have hw:IntKind.i64.wrap ((n:Int)+1)=(n:Int)+1:=ai _ (by omega) (by omega)
   have hl1:dp.length+1≤LIM:=by unfold LIM; omega
   have hl2:pr.length+1≤LIM:=by unfold LIM; omega
   cases hv:b.fv 0 with
   | true =>
    rw [hv] at his
    have hth:=ih b (d+1) (n+1) (dp++[(n:Int)]) pr hbk hbp hb (by omega) (by omega) (by simp; omega) (by omega)
    simp only [plL,if_true,List.append_assoc,List.cons_append,List.nil_append] at hth ⊢
    push_cast at hth
    try simp only [show ¬ (true=false) by decide,if_false]
    rw [aP,aF]
    generalize LO TT HH [0] cv=F at hth ⊢
    simp only [PSt,List.length_append,List.length_cons,List.length_nil,Nat.zero_add] at hth ⊢
    simp [cv,h2,hab,his,hw,hl1,hth,aB,aj]
   | false =>
    rw [hv] at his
    have hth:=ih b (d+1) (n+1) dp (pr++[(n:Int)]) hbk hbp hb (by omega) (by omega) (by omega) (by simp; omega)
    simp only [plL,if_true,List.append_assoc,List.cons_append,List.nil_append] at hth ⊢
    push_cast at hth
    try simp only [show ¬ (false=true) by decide,if_false]
    rw [aP,aF]
    generalize LO TT HH [0] cv=F at hth ⊢
    simp only [PSt,List.length_append,List.length_cons,List.length_nil,Nat.zero_add] at hth ⊢
    simp [cv,h2,hab,his,hw,hl2,hth,aB,aj]
  ·rw [Cl h2,oZ h2,aP,aF]
   generalize LO TT HH [0] cv=F
   simp [cv,PSt,h2,plL]
theorem tU (c:Tm) (h:c.ok) (hp:c.proper=true):az TT HH [] iP [c.enc] []=some (.ret (.agg [.sl false (ab (plL true (bv 40 c) 0)),.sl false (ab (plL false (bv 40 c) 0))]),[]):=by
 rw [vk]
 have hlo:=NE 40 c 1 0 [] [] h hp (ar hp) (by omega) (by omega) (by simp) (by simp)
 simp only [PSt] at hlo
 simp at hlo
 simp [kL,hlo,aj]
theorem NF (v:Bool):∀ (D:List Bool) (i:Int),∀ x∈plL v D i,i≤x∧x<i+D.length
 | [],i,x,h=>by simp [plL] at h
 | d::r,i,x,h=>by
  unfold plL at h
  have ih:=NF v r (i+1) x
  simp only [List.length_cons]
  push_cast
  split at h
  ·rcases List.mem_cons.1 h with rfl|h
   ·omega
   ·have:=ih h; omega
  ·have:=ih h; omega
theorem JO (v:Bool):∀ (D:List Bool) (i:Int),(plL v D i).length≤D.length
 | [],i=>by simp [plL]
 | d::r,i=>by
  unfold plL
  have ih:=JO v r (i+1)
  split<;>simp<;>omega
theorem Hm:∀ (D pre:List Bool),(plL false D pre.length).foldl (fun l k=>l.set k.toNat true) (pre++List.replicate D.length false)=pre++D.map (!·)
 | [],pre=>by simp [plL]
 | d::r,pre=>by
  have ih:=Hm r (pre++[!d])
  simp only [List.length_append,List.length_cons,List.length_nil,List.append_assoc,List.cons_append,List.nil_append] at ih
  push_cast at ih
  rw [List.map_cons,← ih]
  cases d with
  | true=>simp [plL,List.replicate_succ]
  | false=>simp [plL,List.replicate_succ]
theorem uO (c:Tm) (h:c.ok) (hp:c.proper=true):az TT HH [] ju [c.enc] []=some (.ret (.sl false (ab ((bv 40 c).map (!·)))),[]):=by
 rw [vX]
 have h1:=au (dX c (ar hp)) (by simp) (by simp)
 have h2:=au (tU c h hp) (by simp) (by simp)
 have hdl:=tu 40 c
 have hlen:=xd 40 c
 have hps:=Hm (bv 40 c) []
 have hple:=NF false (bv 40 c) 0
 have hpll:=JO false (bv 40 c) 0
 have e3:(Tm.doms 40 c).length<9223372036854775808:=by omega
 rw [← hlen] at e3
 simp at hps
 generalize hD:bv 40 c=D at *
 have hLm:D.length≤LIM:=by unfold LIM; omega
 have e4:(plL false D 0).length<9223372036854775808:=by omega
 have hmem:∀ x∈plL false D 0,0≤x∧x<D.length:=fun x hx=>by have:=hple x hx; omega
 generalize plL false D 0=P at *
 have hlo:=be (T:=TT) (H:=HH) (b:=[0]) (A:=gG) P
  (fun i (B:List Bool)=>([(5,.rs 2 0 0 D.length),(18,.sl false (ab P)),(19,.i P.length),(20,.i i)],[.var (Enc.cells c),.var (Enc.cells (Tm.core 40 c)),.arr 0 1 (ab B)]))
  (fun r i B=>(.exit 0,[(5,.rs 2 0 0 D.length)],[.var (Enc.cells c),.var (Enc.cells (Tm.core 40 c)),.arr 0 1 (ab (r.foldl (fun l k=>l.set k.toNat true) B))]))
  (fun i B=>B.length=D.length)
  (fun B _=>by
   rw [aF]
   simp [gG])
  (fun i x r B hx hm hd hi hB=>by
   have e1:(i:Int)<P.length:=by omega
   have hw:IntKind.i64.wrap ((i:Int)+1)=(i:Int)+1:=ai _ (by omega) (by omega)
   obtain ⟨x0,x1⟩:=hmem x hm
   have hBx:x.toNat<B.length:=by omega
   refine .inr ⟨B.set x.toNat true,?_,by simp [hB],rfl⟩
   obtain ⟨bx,hbx⟩:∃ b,B[x.toNat]? = some b:=⟨_,List.getElem?_eq_getElem hBx⟩
   have hset:(ab B).set x.toNat [PV.b true]=ab (B.set x.toNat true):=L2 B x.toNat true
   rw [aF]
   simp [gG,e1,hx,hw,x0,x1,hB,hBx,hbx,hset,aj,-getElem?_pos,List.getElem?_cons_zero,List.getElem?_cons_succ,List.getElem?_nil,ak,aw,aq,ax,ay,ag,af,take_set,ae]
   all_goals first|exact hset|(rw [← hset]; rfl)) 0 (List.replicate D.length false) (by omega) (by simp)
 have hrep:List.replicate D.length [PV.b false]=ab (List.replicate D.length false):=by simp [ab]
 rw [← hps]
 simp at hlo
 have hfl:∀ l:List Int,∀ B:List Bool,(l.foldl (fun l k=>l.set k.toNat true) B).length=B.length:=fun l=>by
  induction l with
  | nil=>intro B; rfl
  | cons a r ih=>intro B; rw [List.foldl_cons,ih,List.length_set]
 have hfD:=hfl P (List.replicate D.length false)
 rw [List.length_replicate] at hfD
 simp [lZ,h1,h2,e3,e4,← hlen,hLm,hrep,hlo,hfD,aj,aa]
 exact congrArg ab (List.take_of_length_le (by omega))
end Go.Ev

namespace Go.Ev
def dO (C A:List Tm):PV:=.agg [.sl false (ab (C.map mu)),.sl false (ab A)]
def rB (r:Int×List Tm×List Tm):PV:=.tup [if r.1=0 then dO r.2.1 r.2.2 else dO [] [],.i r.1]
def xy (c:Tm):Int×List Tm×List Tm:=((cX (Tm.doms 40 c).length [] [] c).1,(rq (cX (Tm.doms 40 c).length [] [] c).2.1 (cX (Tm.doms 40 c).length [] [] c).2.2.1))
theorem sG {sig:List Dc} {n:Int} (hs:∀ d∈sig,d.ok) (hk:fD sig=true) (hn:sb sig n=true):∃ d,sig[n.toNat]? = some d∧d∈sig∧0≤n∧n<sig.length∧d.class_.ok∧d.class_.proper=true∧d.class_.mb 0=true:=by
 obtain ⟨d,h1,h2,h3,h4⟩:=xw hn
 refine ⟨d,h1,h2,h3,h4,(hs d h2).2.1,(nZ hk h2).1,?_⟩
 have hcl:∃ m,clT d.class_ m=true:=by
  unfold fD at hk
  simp only [Bool.and_eq_true] at hk
  have key:∀ (l b:List Dc),sgF b l=true→∀ d∈l,∃ m,clT d.class_ m=true:=by
   intro l
   induction l with
   | nil=>intro b _ d hd; cases hd
   | cons a r ih =>
    intro b h d hd
    rw [sgF] at h
    simp only [Bool.and_eq_true] at h
    rcases List.mem_cons.1 hd with rfl|hd
    ·have h1:=h.1.1
     unfold okD at h1
     simp only [Bool.and_eq_true] at h1
     exact ⟨_,h1.1.2⟩
    ·exact ih _ h.2 d hd
  exact key sig [] hk.2 d h2
 obtain ⟨m,hcl⟩:=hcl
 rw [Fq 0 d.class_ 0,List.all_eq_true]
 unfold clT at hcl
 rw [List.all_eq_true] at hcl
 intro x hx
 have:=hcl x hx
 unfold clN at this
 unfold mV
 by_cases a:x.1.op=4
 ·by_cases b:x.1.hd=3
  ·simp [a,b] at this
  ·simp [b]
 ·simp [a]
theorem wj (sig:List Dc) (hl:sig.length≤maxLen) (hs:∀ d∈sig,d.ok) (n:Int):az TT HH [] gr [.sl false (ab sig),.i n] []=some (.ret (if tr sig n=0 then rB (xy (sig.getD n.toNat ⟨ByteArray.empty,tz,0⟩).class_) else .tup [dO [] [],.i (tr sig n)]),[]):=by
 rw [xW]
 have h1:=au (xx sig hl hs n) (by simp) (by simp)
 by_cases he:tr sig n=0
 ·rw [if_pos he]
  rw [he] at h1
  have hk:fD sig=true∧sb sig n=true:=by
   unfold tr pz at he
   cases hk:fD sig<;>cases hn:sb sig n<;>simp [hk,hn] at he ⊢
  obtain ⟨d,hd,hm,h0,hlt,dok,dp,dm⟩:=sG hs hk.1 hk.2
  have hgd:sig.getD n.toNat ⟨ByteArray.empty,tz,0⟩=d:=by rw [List.getD_eq_getElem?_getD,hd]; rfl
  rw [hgd]
  have h2:=au (sF sig n d h0 hd (ar dp)) (by simp) (by simp)
  have hdl:=lh 40 d.class_
  have h3:=CB d.class_ dok dp dm (Tm.doms 40 d.class_).length hdl [0] [.var [.sl true [],.sl true []]] (by simp)
  have hok:=Cm (Tm.doms 40 d.class_).length [] [] d.class_ qN dok dp (by simpa using dm) (by simp)
  unfold xy rB
  unfold Hj at h3
  by_cases ho:(cX (Tm.doms 40 d.class_).length [] [] d.class_).1=0
  ·rw [if_pos ho] at h3
   obtain ⟨w,a,l,hw,h3⟩:=h3
   obtain ⟨o1,o2,o3⟩:=hok ho
   generalize cX (Tm.doms 40 d.class_).length [] [] d.class_=R at *
   obtain ⟨fl,rfl⟩:=oN hw
   have h4:=au (qR o1 R.2.2.1 o2 (by simp at o3; omega)) (by simp) (by simp)
   simp at h3
   simp only [ho,if_true,dO]
   simp [ij,h1,h2,h3,h4,h0,hlt,hd,aj,aa,-getElem?_pos,List.getElem?_cons_zero,List.getElem?_cons_succ,List.getElem?_nil,ak,aw,aq,ax,ay,ag,af,take_set,ae]
  ·rw [if_neg ho] at h3
   obtain ⟨a,l,h3⟩:=h3
   generalize cX (Tm.doms 40 d.class_).length [] [] d.class_=R at *
   simp at h3
   simp only [ho,if_false,dO]
   simp [ij,h1,h2,h3,ho,h0,hlt,hd,aj,aa,-getElem?_pos,List.getElem?_cons_zero,List.getElem?_cons_succ,List.getElem?_nil,ak,aw,aq,ax,ay,ag,af,take_set,ae]
 ·rw [if_neg he]
  simp [ij,h1,he,dO]
end Go.Ev

namespace Go.Ev
theorem IX (g z:Ob) (c a:List PV→PV) (Cv Av iv:PV) (hc:below 0 Cv=true) (ha:below 0 Av=true) (hi0:below 0 iv=true) (b:List Nat) (m:List Int) (hm:m.length≤80) (l:List Int) (hl:l.length≤80) :
  LO TT HH b ez ([(2,.ptr 1 0),(4,Cv),(6,Av),(7,.ow 2 l.length (ab l)),(8,iv),(9,.sl false (ab m)),(11,.i 0)],[g,z,.tok 1 l.length]) =
   some (.exit 2,[(2,.ptr 1 0),(4,Cv),(6,Av),(7,.ow 2 (m.foldl lj l).length (ab (m.foldl lj l))),(8,iv)],[g,z,.tok 1 (m.foldl lj l).length]):=by
 have e3:m.length<9223372036854775808:=by omega
 have q1:=bk (Nat.zero_le 3) Cv hc
 have q2:=bk (Nat.zero_le 3) Av ha
 have q3:=bk (Nat.zero_le 3) iv hi0
 have hlo:=be (T:=TT) (H:=HH) (b:=b) (A:=ez) m
  (fun k (l:List Int)=>([(2,.ptr 1 0),(4,Cv),(6,Av),(7,.ow 2 l.length (ab l)),(8,iv),(9,.sl false (ab m)),(11,.i k)],[g,z,.tok 1 l.length]))
  (fun r k l=>(.exit 2,[(2,.ptr 1 0),(4,Cv),(6,Av),(7,.ow 2 (r.foldl lj l).length (ab (r.foldl lj l))),(8,iv)],[g,z,.tok 1 (r.foldl lj l).length]))
  (fun k l'=>l'.length≤l.length+k)
  (fun l' hl'=>by
   rw [aF]
   simp [ez,e3,q1,q2,q3])
  (fun i x r l' hx hmm hd hi hl'=>by
   have e1:(i:Int)<m.length:=by omega
   have hw:IntKind.i64.wrap ((i:Int)+1)=(i:Int)+1:=ai _ (by omega) (by omega)
   have hh:=fun bars σ=>Fz (l:=l') (by omega) x 2 l'.length bars σ
   have hl1:l'.length+1≤LIM:=by unfold LIM; omega
   by_cases hx2:x∈l'
   ·have hadd:lj l' x=l':=by unfold lj; rw [if_pos hx2]
    refine .inr ⟨l',?_,by omega,by rw [List.foldl_cons,hadd]⟩
    rw [aF]
    simp [hx2] at hh
    simp [ez,e1,e3,hx,hw,hh,q1,q2,q3]
   ·have hadd:lj l' x=l'++[x]:=by unfold lj; rw [if_neg hx2]
    refine .inr ⟨l'++[x],?_,by simp; omega,by rw [List.foldl_cons,hadd]⟩
    rw [aF]
    simp [hx2] at hh
    simp [ez,e1,e3,hx,hw,hh,hl1,q1,q2,q3,aB]) 0 l (by omega) (by omega)
 simpa using hlo
theorem IY {C:List Tm} (hC:CM C) (A:List Tm) (hA:∀ x∈A,x.ok∧x.proper=true∧x.mb C.length=true) (hl:A.length≤1000) (g z:Ob) :
  LO TT HH [0] fU ([(2,.ptr 1 0),(4,.sl false (ab (C.map mu))),(6,.sl false (ab A)),(7,.ow 2 0 []),(8,.i 0)],[g,z,.tok 1 0]) =
   some (.exit 0,[(2,.ptr 1 0),(4,.sl false (ab (C.map mu))),(6,.sl false (ab A)),(7,.ow 2 (iH C A []).length (ab (iH C A [])))],[g,z,.tok 1 (iH C A []).length]):=by
 have e3:A.length<9223372036854775808:=by omega
 have hlo:=be (T:=TT) (H:=HH) (b:=[0]) (A:=fU) A
  (fun i (l:List Int)=>([(2,.ptr 1 0),(4,.sl false (ab (C.map mu))),(6,.sl false (ab A)),(7,.ow 2 l.length (ab l)),(8,.i i)],[g,z,.tok 1 l.length]))
  (fun r i l=>(.exit 0,[(2,.ptr 1 0),(4,.sl false (ab (C.map mu))),(6,.sl false (ab A)),(7,.ow 2 (iH C r l).length (ab (iH C r l)))],[g,z,.tok 1 (iH C r l).length]))
  (fun i l=>OL C l)
  (fun l hl=>by
   rw [aF]
   simp [fU,e3,iH])
  (fun i x r l hx hmm hd hi hl=>by
   have e1:(i:Int)<A.length:=by omega
   have hw:IntKind.i64.wrap ((i:Int)+1)=(i:Int)+1:=ai _ (by omega) (by omega)
   obtain ⟨xo,xp,xm⟩:=hA x hmm
   have h80:=hC.len
   have hO:=(Fv hC (ar xp) (by omega) xm).1
   have hlen:=hO.len
   have hlen2:=hl.len
   have ho:=au (yL hC x xo xp xm false) (by simp) (by simp)
   have h1:=IX g z (fun _=>.b true) (fun _=>.b true) (.sl false (ab (C.map mu))) (.sl false (ab A)) (.i i) (by simp) (by simp) (by simp) [3,0] (kC C x []) (by omega) l (by omega)
   refine .inr ⟨(kC C x []).foldl lj l,?_,IK hl hO,rfl⟩
   rw [aF]
   generalize kC C x []=m at *
   simp [fU,e1,e3,hx,hw,ho,h1,aa]) 0 [] (by omega) (r0 C)
 simpa using hlo
theorem IZ {C:List Tm} (hC:CM C) {L:List Int} (hL:OL C L) (Av:PV) (ha:below 0 Av=true) (g z:Ob) :
  LO TT HH [0] fV ([(2,.ptr 1 0),(4,.sl false (ab (C.map mu))),(6,Av),(7,.ow 2 L.length (ab L)),(12,.ptr 3 0),(13,.i 0)],[g,z,.tok 1 L.length,.var [.ow 4 0 [],.ow 5 0 []],.tok 10 0,.tok 4 0]) =
   some (.exit 4,[(2,.ptr 1 0),(6,Av),(7,.ow 2 L.length (ab L)),(12,.ptr 3 0)],[g,z,.tok 1 L.length,.var [.ow 4 L.length (ab ((L.map fun n=>gI L (C.getD n.toNat tz)).map mu)),.ow 5 0 []],.tok 10 L.length,.tok 4 0]):=by
 have h80:=hC.len
 have hlen:=hL.len
 have e3:L.length<9223372036854775808:=by omega
 have q2:=bk (Nat.zero_le 6) Av ha
 have hlo:=be (T:=TT) (H:=HH) (b:=[0]) (A:=fV) L
  (fun i (D:List Tm)=>([(2,.ptr 1 0),(4,.sl false (ab (C.map mu))),(6,Av),(7,.ow 2 L.length (ab L)),(12,.ptr 3 0),(13,.i i)],[g,z,.tok 1 L.length,.var [.ow 4 D.length (ab (D.map mu)),.ow 5 0 []],.tok 10 D.length,.tok 4 0]))
  (fun r i D=>(.exit 4,[(2,.ptr 1 0),(6,Av),(7,.ow 2 L.length (ab L)),(12,.ptr 3 0)],[g,z,.tok 1 L.length,.var [.ow 4 (D++r.map fun n=>gI L (C.getD n.toNat tz)).length (ab ((D++r.map fun n=>gI L (C.getD n.toNat tz)).map mu)),.ow 5 0 []],.tok 10 (D++r.map fun n=>gI L (C.getD n.toNat tz)).length,.tok 4 0]))
  (fun i D=>D.length=i)
  (fun D hD=>by
   rw [aF]
   simp [fV,e3,q2])
  (fun i x r D hx hmm hd hi hD=>by
   have e1:(i:Int)<L.length:=by omega
   have hw:IntKind.i64.wrap ((i:Int)+1)=(i:Int)+1:=ai _ (by omega) (by omega)
   obtain ⟨n0,n1⟩:=hL.lt x hmm
   obtain ⟨a,hx2,hga,ao,ap,-⟩:=uF hC n0 n1
   have hr:=fun bars σ=>vE (l:=L) (by omega) hL.nd a ao ap 2 L.length bars σ
   have hl1:D.length+1≤LIM:=by unfold LIM; omega
   refine .inr ⟨D++[gI L a],?_,by simp [hD],by rw [List.map_cons,hga]; simp⟩
   rw [aF]
   generalize gI L a=y at *
   simp [fV,e1,e3,hx,hx2,n0,hw,hr,hl1,q2,aa,aj]
   exact nD _ y) 0 [] (by omega) rfl
 simpa using hlo
theorem I0 {C:List Tm} {L:List Int} (hl:L.length≤80) (hnd:L.Nodup) (A:List Tm) (hA:∀ x∈A,x.ok∧x.proper=true) (hal:A.length≤1000) (M:List Tm) (g z:Ob) :
  LO TT HH [0] fW ([(2,.ptr 1 0),(6,.sl false (ab A)),(7,.ow 2 L.length (ab L)),(12,.ptr 3 0),(14,.i 0)],[g,z,.tok 1 L.length,.var [.ow 4 M.length (ab (M.map mu)),.ow 5 0 []],.tok 10 M.length,.tok 4 0]) =
   some (.exit 6,[(2,.ptr 1 0),(12,.ptr 3 0)],[g,z,.tok 1 L.length,.var [.ow 4 M.length (ab (M.map mu)),.ow 5 A.length (ab (A.map (gI L)))],.tok 10 M.length,.tok 4 A.length]):=by
 have e3:A.length<9223372036854775808:=by omega
 have hlo:=be (T:=TT) (H:=HH) (b:=[0]) (A:=fW) A
  (fun i (D:List Tm)=>([(2,.ptr 1 0),(6,.sl false (ab A)),(7,.ow 2 L.length (ab L)),(12,.ptr 3 0),(14,.i i)],[g,z,.tok 1 L.length,.var [.ow 4 M.length (ab (M.map mu)),.ow 5 D.length (ab D)],.tok 10 M.length,.tok 4 D.length]))
  (fun r i D=>(.exit 6,[(2,.ptr 1 0),(12,.ptr 3 0)],[g,z,.tok 1 L.length,.var [.ow 4 M.length (ab (M.map mu)),.ow 5 (D++r.map (gI L)).length (ab (D++r.map (gI L)))],.tok 10 M.length,.tok 4 (D++r.map (gI L)).length]))
  (fun i D=>D.length=i)
  (fun D hD=>by
   rw [aF]
   simp [fW,e3])
  (fun i x r D hx hmm hd hi hD=>by
   have e1:(i:Int)<A.length:=by omega
   have hw:IntKind.i64.wrap ((i:Int)+1)=(i:Int)+1:=ai _ (by omega) (by omega)
   obtain ⟨xo,xp⟩:=hA x hmm
   have hr:=fun bars σ=>vE (l:=L) (by omega) hnd x xo xp 2 L.length bars σ
   have hl1:D.length+1≤LIM:=by unfold LIM; omega
   refine .inr ⟨D++[gI L x],?_,by simp [hD],by simp⟩
   rw [aF]
   generalize gI L x=y at *
   simp [fW,e1,e3,hx,hw,hr,hl1,aa,aj]) 0 [] (by omega) rfl
 simpa using hlo
theorem qS {C:List Tm} (hC:CM C) (A:List Tm) (hA:∀ x∈A,x.ok∧x.proper=true∧x.mb C.length=true) (hl:A.length≤1000) (f1 f2:Bool):az TT HH [] i6 [.agg [.sl f1 (ab (C.map mu)),.sl f2 (ab A)]] []=some (.ret (.tup [dO (rq C A).1 (rq C A).2,.i 0]),[]):=by
 rw [x8]
 have h80:=hC.len
 have h1:=au (Cx hC false) (by simp) (by simp)
 have h2:=au (tS h80 A hl hA false false) (by simp) (by simp)
 obtain ⟨hOL,-,-⟩:=Fw hC A [] (fun x hx=>(hA x hx).2) (r0 C)
 have h3:=IY hC A hA hl (.var [.sl false (ab (C.map mu)),.sl false (ab A)]) (.var [.sl true [],.sl true []])
 have h4:=IZ hC hOL (.sl false (ab A)) (by simp) (.var [.sl false (ab (C.map mu)),.sl false (ab A)]) (.var [.sl true [],.sl true []])
 have hlen:=hOL.len
 have h5:=I0 (C:=C) (by omega) hOL.nd A (fun x hx=>⟨(hA x hx).1,(hA x hx).2.1⟩) hl ((iH C A []).map fun n=>gI (iH C A []) (C.getD n.toNat tz)) (.var [.sl false (ab (C.map mu)),.sl false (ab A)]) (.var [.sl true [],.sl true []])
 unfold rq dO
 generalize iH C A []=L at *
 simp only [List.length_map] at h5
 generalize hM:(L.map fun n=>gI L (C.getD n.toNat tz))=M at *
 generalize A.map (gI L)=B at *
 simp [nR,h1,h2,h3,h4,h5,aj]
end Go.Ev

namespace Go.Ev
theorem NG (c0:List PV):∀ (j:Nat) (t:Tm) (d:Int) (l:List Bool) (k:Sto),t.ok→t.formed d=true→0≤d→41 - d≤j→l.length+j≤100 →
  ∃ σ',LO TT HH [0] dH ([(3,.ow 1 l.length (ab l)),(4,.ptr (2+k.length) 0)],Ob.var c0::.tok 1 l.length::(k++[.var [.i t.op,.i t.hd,.i t.n,.sl false (ab t.args)]]))=some (.exit 0,[(3,.ow 1 (l++bv j t).length (ab (l++bv j t)))],σ'):=by
 intro j
 induction j with
 | zero=>intro t d l k _ h _ hj; have:=dK h; omega
 | succ j ih =>
  intro t d l k hok hf hd0 hj hl
  have g2:(Ob.var c0::Ob.tok 1 l.length::(k++[Ob.var [.i t.op,.i t.hd,.i t.n,.sl false (ab t.args)]]))[2+k.length]? = some (Ob.var [.i t.op,.i t.hd,.i t.n,.sl false (ab t.args)]):=by
   rw [show 2+k.length=k.length+1+1 by omega,List.getElem?_cons_succ,List.getElem?_cons_succ]
   simp
  by_cases h2:t.op=2
  ·obtain ⟨a,b,hab,ha,hb⟩:=cz hf h2
   have hbk:=hok.sub b (by rw [hab]; simp)
   have hoc:=au (w8 b hbk (d+1) hb (by omega)) (by simp) (by simp)
   rw [II] at hoc
   obtain ⟨σ',hth⟩:=ih b (d+1) (l++[b.fv 0]) (k++[Ob.var [.i t.op,.i t.hd,.i t.n,.sl false (ab t.args)]]) hbk hb (by omega) (by omega) (by simp; omega)
   rw [yC h2 hab]
   refine ⟨σ',?_⟩
   have hl1:l.length+1≤LIM:=by unfold LIM; omega
   simp only [List.append_assoc,List.cons_append,List.nil_append,List.length_append,List.length_cons,List.length_nil,Nat.zero_add] at hth ⊢
   rw [← hth,aP,aF]
   generalize LO TT HH [0] dH=F
   have i1:2+k.length=k.length+1+1:=by omega
   have i2:2+(k.length+1)=k.length+1+1+1:=by omega
   rw [i1] at g2 ⊢
   rw [i2]
   simp [h2,hab] at g2
   simp [dH,h2,hab,hoc,hl1,aB,aj,aa,-getElem?_pos,List.getElem?_cons_zero,List.getElem?_cons_succ,List.getElem?_nil,ak,aw,aq,ax,ay,ag,af,take_set,ae]
  ·rw [Cl h2]
   refine ⟨Ob.var c0::.tok 1 l.length::(k++[.var [.i t.op,.i t.hd,.i t.n,.sl false (ab t.args)]]),?_⟩
   rw [aP,aF]
   generalize LO TT HH [0] dH=F
   simp [dH,h2,g2]
theorem uP (t:Tm) (h:t.ok) (hf:t.formed 1=true):az TT HH [] jv [t.enc] []=some (.ret (.sl false (ab (bv 40 t))),[]):=by
 rw [vY]
 obtain ⟨σ',hlo⟩:=NG [.i t.op,.i t.hd,.i t.n,.sl false (ab t.args)] 40 t 1 [] [] h hf (by omega) (by omega) (by simp)
 simp at hlo
 simp [l7,hlo]
theorem o7 (t:Tm) (h:t.ok) (hf:t.formed 1=true):az TT HH [] gA [t.enc] []=some (.ret (.sl false (ab (bv 40 t))),[]):=by
 rw [vV]
 have h1:=au (uP t h hf) (by simp) (by simp)
 simp [lX,h1,aa]
end Go.Ev

namespace Go.Ev
theorem yQ (C:List Tm) (hC:C.length≤80) (fl:Bool):az TT HH [] og [.sl fl (ab (C.map mu)),.s ⟨#[]⟩] []=some (.ret (.i (-1)),[]):=by
 rw [BD]
 have e3:C.length<9223372036854775808:=by omega
 have hlo:=be (T:=TT) (H:=HH) (b:=[0]) (A:=kr) C
  (fun i (_:Unit)=>([(0,.sl false (ab (C.map mu))),(1,.s ⟨#[]⟩),(7,.i C.length),(8,.i i)],[]))
  (fun r i _=>(.exit 0,[],[]))
  (fun i _=>True)
  (fun _ _=>by
   rw [aF]
   simp [kr])
  (fun i x r _ hx hm hd hi _=>by
   have e1:(i:Int)<C.length:=by omega
   have hw:IntKind.i64.wrap ((i:Int)+1)=(i:Int)+1:=ai _ (by omega) (by omega)
   refine .inr ⟨(),?_,trivial,rfl⟩
   rw [aF]
   simp [kr,e1,hx,hw]) 0 () (by omega) trivial
 simp at hlo
 simp [qx,e3,hlo]
theorem yR (a:Tm) (h:a.ok) (hp:a.proper=true):az TT HH [] oh [a.enc] []=some (.ret (.b a.smp.isSome),[]):=by
 rw [BE]
 have h1:=au (nB a h 1 (ar hp) (by have:=aI hp; omega)) (by simp) (by simp)
 cases hs:a.smp with
 | none =>
  rw [hs] at h1
  simp [nh,h1,aa,aD,spz]
 | some s =>
  rw [hs] at h1
  obtain ⟨g1,g2,g3⟩:=iG hp hs
  have h2:=au (n9 s g1 g3) (by simp) (by simp)
  simp [nh,h1,h2,aa,aD]
theorem Ak (C:List Tm) (hC:C.length<80) (a:Tm) (fl tt:Bool):az TT HH [] pR [.sl fl (ab (C.map mu)),.agg [.s ⟨#[]⟩,.i a.op,.i a.hd,.i a.n,.sl false (ab a.args),.b false,.i 0,.i 0,.i 0,.sl tt []]] []=some (.ret (.sl false (ab ((C++[a]).map mu))),[]):=by
 rw [Db]
 have hl1:C.length+1≤LIM:=by unfold LIM; omega
 have hl2:C.length≤LIM:=by unfold LIM; omega
 have l1:1≤LIM:=by decide
 by_cases h0:C=[]
 ·subst h0
  simp [oC,l1,aB,tz]
 ·have h0':0<C.length:=List.length_pos_iff.2 h0
  simp [oC,l1,hl1,hl2,h0,h0']
  exact nD _ a
theorem uQ (t:Tm):az TT HH [] oU [t.enc] []=some (.ret (nH t).enc,[]):=by
 rw [E5]
 simp [s4,nH,Tm.enc,aB]
theorem CJ (t:Tm) (h:t.ok) (hp:t.proper=true) (fl:Bool):az TT HH [] pP [.sl fl [],t.enc] []=some (.ret (.tup [t.enc,.i 0]),[]):=by
 rw [C8]
 have h1:=au (bN t h) (by simp) (by simp)
 rw [hp] at h1
 have hw:IntKind.i64.wrap (-1)=-1:=ai _ (by omega) (by omega)
 have k0:LO TT HH [0] lD ([(0,.sl false []),(3,.ptr 0 0),(4,.ptr 1 0),(6,.i 0)],[.var [.i t.op,.i t.hd,.i t.n,.sl false (ab t.args)],.var [.i 0,.i 0,.i 0,.sl true []]])=some (.exit 0,[(0,.sl false []),(3,.ptr 0 0),(4,.ptr 1 0)],[.var [.i t.op,.i t.hd,.i t.n,.sl false (ab t.args)],.var [.i 0,.i 0,.i 0,.sl true []]]):=by
  rw [aP,aF]
  generalize LO TT HH [0] lD=F
  simp [lD]
 have k1:LO TT HH [0] lE ([(0,.sl false []),(3,.ptr 0 0),(4,.ptr 1 0),(7,.i (-1))],[.var [.i t.op,.i t.hd,.i t.n,.sl false (ab t.args)],.var [.i 0,.i 0,.i 0,.sl true []]])=some (.exit 2,[(3,.ptr 0 0),(4,.ptr 1 0)],[.var [.i t.op,.i t.hd,.i t.n,.sl false (ab t.args)],.var [.i 0,.i 0,.i 0,.sl true []]]):=by
  rw [aP,aF]
  generalize LO TT HH [0] lE=F
  simp [lE]
 simp [rQ,h1,hw,k0,k1,aa]
def FrR (a z c r:List PV) (t:Ob) (o:List PV) (k:Nat):Sto:=[.var a,.var z,.var c,.var r,t,.var o,.tok 4 k]
theorem Hn (a z c r:List PV) (tk:Ob) (m:PV) (k':Nat):∀ (j:Nat) (t:Tm) (i:Nat) (k:Int),(i:Int)+j=k→k≤4000→below 0 m=true→LO TT HH [0] cy ([(0,m),(1,.s ⟨#[]⟩),(9,.ptr 1 0),(11,.ptr 2 0),(16,.ptr 5 0),(114,.i k),(115,.i i)],FrR a z c r tk [.i t.op,.i t.hd,.i t.n,.sl false (ab t.args)] k')=some (.exit 2,[(0,m),(1,.s ⟨#[]⟩),(9,.ptr 1 0),(11,.ptr 2 0),(16,.ptr 5 0)],FrR a z c r tk [.i (dz j t).op,.i (dz j t).hd,.i (dz j t).n,.sl false (ab (dz j t).args)] k'):=by
 intro j
 induction j with
 | zero =>
  intro t i k h hk hm
  rw [aP,aF]
  generalize LO TT HH [0] cy=F
  have:¬ (i:Int)<k:=by omega
  have hm7:=bk (Nat.zero_le 7) m hm
  simp [cy,FrR,this,dz,hm7]
 | succ j ih =>
  intro t i k h hk hm
  have hth:=ih (nH t) (i+1) k (by push_cast at h ⊢; omega) hk hm
  rw [aP,aF]
  generalize LO TT HH [0] cy=F at hth ⊢
  have e1:(i:Int)<k:=by omega
  have hw:IntKind.i64.wrap ((i:Int)+1)=(i:Int)+1:=ai _ (by omega) (by omega)
  have hl:=au (uQ t) (by simp) (by simp)
  have hm7:=bk (Nat.zero_le 7) m hm
  push_cast at hth
  simp only [FrR] at hth ⊢
  simp [cy,e1,hw,hl,hth,hm7,aa,dz]
def I1 (m:PV) (D:List Tm):Env:=[(0,m),(1,.s ⟨#[]⟩),(9,.ptr 1 0),(11,.ptr 2 0),(13,.sl false (ab D)),(15,.ow 4 D.length (ab D)),(16,.ptr 5 0)]
theorem Ho (D:List Tm) (L:List Sp) (n:Int) (m:PV) (hm:below 0 m=true) (a z c r:List PV) (tk:Ob) (hL:sw D=some L) (hD:∀ x∈D,x.ok∧x.proper=true) (hl:D.length≤40) :
  if (cN L D.length 0).all Tm.proper then LO TT HH [0] eA (I1 m D++[(79,.i D.length),(80,.i 0)],FrR a [.i 0,.i 0,.i 0,.sl true []] c r tk [.i 4,.i 3,.i n,.ow 6 0 []] 0)=some (.exit 0,[(0,m),(1,.s ⟨#[]⟩),(9,.ptr 1 0),(11,.ptr 2 0),(13,.sl false (ab D)),(16,.ptr 5 0)],FrR a [.i 0,.i 0,.i 0,.sl true []] c r tk [.i 4,.i 3,.i n,.ow 6 D.length (ab (cN L D.length 0))] D.length)
  else ∃ k l,LO TT HH [0] eA (I1 m D++[(79,.i D.length),(80,.i 0)],FrR a [.i 0,.i 0,.i 0,.sl true []] c r tk [.i 4,.i 3,.i n,.ow 6 0 []] 0)=some (.ret,[(8,.sl true []),(9,.ptr 1 0),(10,.i 5)],FrR a [.i 0,.i 0,.i 0,.sl true []] c r tk [.i 4,.i 3,.i n,.ow 6 k l] k):=by
 obtain ⟨hLl,hLg⟩:=uL D L hL
 have hm7:=bk (Nat.zero_le 7) m hm
 have hlo:=gJ (T:=TT) (H:=HH) (b:=[0]) (A:=eA) D
  (fun i (l:List Tm)=>(I1 m D++[(79,.i D.length),(80,.i i)],FrR a [.i 0,.i 0,.i 0,.sl true []] c r tk [.i 4,.i 3,.i n,.ow 6 l.length (ab l)] l.length))
  (fun r' i l y=>if (cN (L.drop i) D.length i).all Tm.proper then y=(.exit 0,[(0,m),(1,.s ⟨#[]⟩),(9,.ptr 1 0),(11,.ptr 2 0),(13,.sl false (ab D)),(16,.ptr 5 0)],FrR a [.i 0,.i 0,.i 0,.sl true []] c r tk [.i 4,.i 3,.i n,.ow 6 (l++cN (L.drop i) D.length i).length (ab (l++cN (L.drop i) D.length i))] (l++cN (L.drop i) D.length i).length)
   else ∃ k l,y=(.ret,[(8,.sl true []),(9,.ptr 1 0),(10,.i 5)],FrR a [.i 0,.i 0,.i 0,.sl true []] c r tk [.i 4,.i 3,.i n,.ow 6 k l] k))
  (fun i l=>l.length=i)
  (fun l _=>by
   have hd:L.drop D.length=[]:=List.drop_eq_nil_of_le (by omega)
   refine ⟨(.exit 0,[(0,m),(1,.s ⟨#[]⟩),(9,.ptr 1 0),(11,.ptr 2 0),(13,.sl false (ab D)),(16,.ptr 5 0)],FrR a [.i 0,.i 0,.i 0,.sl true []] c r tk [.i 4,.i 3,.i n,.ow 6 l.length (ab l)] l.length),?_,by simp,by simp [hd,cN]⟩
   rw [aF]
   simp [eA,FrR,I1,hm7])
  (fun i x r' l hx hmm hd hi hl'=>by
   have e1:(i:Int)<D.length:=by omega
   have e3:D.length<9223372036854775808:=by omega
   have hw:IntKind.i64.wrap ((i:Int)+1)=(i:Int)+1:=ai _ (by omega) (by omega)
   have hw1:IntKind.i64.wrap ((D.length:Int) - 1)=(D.length:Int) - 1:=ai _ (by omega) (by omega)
   have hw2:IntKind.i64.wrap ((D.length:Int) - 1 - i)=(D.length:Int) - 1 - i:=ai _ (by omega) (by omega)
   obtain ⟨xo,xp⟩:=hD x hmm
   obtain ⟨s,hs1,hs2⟩:=hLg i x hx
   obtain ⟨g1,g2,g3⟩:=iG xp hs2
   have hsm:=au (nB x xo 1 (ar xp) (by have:=aI xp; omega)) (by simp) (by simp)
   rw [hs2] at hsm
   have hlg:=au (Ac s g1 g3 g2 1 ((D.length:Int) - 1 - i) (by omega) (by omega) (by omega) (by omega)) (by simp) (by simp)
   have hdr:L.drop i=s::L.drop (i+1):=by
    obtain ⟨h1,h2⟩:=List.getElem?_eq_some_iff.1 hs1
    rw [List.drop_eq_getElem_cons h1,h2]
   have hl1:l.length+1≤LIM:=by unfold LIM; omega
   have hl2:i+1≤LIM:=by unfold LIM; omega
   cases hp:(eH s 1 ((D.length:Int) - 1 - i)).proper with
   | true =>
    rw [hp] at hlg
    refine .inr ⟨l++[eH s 1 ((D.length:Int) - 1 - i)],?_,by simp [hl'],fun y hy=>?_⟩
    ·rw [aF]
     simp [eA,FrR,I1,e1,e3,hx,hw,hw1,hw2,hsm,hlg,hl1,hm7,aa,aD,aj]
    ·rw [hdr]
     simpa [cN,hp] using hy
   | false =>
    rw [hp] at hlg
    refine .inl ⟨(.ret,[(8,.sl true []),(9,.ptr 1 0),(10,.i 5)],FrR a [.i 0,.i 0,.i 0,.sl true []] c r tk [.i 4,.i 3,.i n,.ow 6 l.length (ab l)] l.length),?_,by simp,by rw [hdr]; simp only [cN,List.all_cons,hp,Bool.false_and]; exact ⟨_,_,rfl⟩⟩
    rw [aF]
    simp [eA,FrR,I1,e1,e3,hx,hw,hw1,hw2,hsm,hlg,hm7,aa,aD,aj]) 0 [] (by omega) rfl
 obtain ⟨y,hy,hq⟩:=hlo
 simp only [List.drop_zero,Int.natCast_zero] at hq
 have hll:(cN L D.length 0).length=D.length:=by rw [my,hLl]
 cases hp:(cN L D.length 0).all Tm.proper with
 | true =>
  rw [if_pos hp] at hq
  subst hq
  simpa [hll] using hy
 | false =>
  rw [if_neg (by rw [hp]; simp)] at hq
  obtain ⟨k,l,rfl⟩:=hq
  simp only [Bool.false_eq_true,if_false]
  exact ⟨k,l,by simpa using hy⟩
end Go.Ev

namespace Go.Ev
set_option maxHeartbeats 1000000 in
theorem sH {C:List Tm} (hC:CM C) (a:Tm) (h:a.ok) (hp:a.proper=true) (fl fl2:Bool):az TT HH [] kT [.sl fl (ab (C.map mu)),.s ⟨#[]⟩,.sl fl2 [],a.enc] []=some (.ret (.tup (sa C a)),[]):=by
 rw [Bw]
 have h80:=hC.len
 have e3:C.length<9223372036854775808:=by omega
 have hf:=ar hp
 have hnm:=au (yQ C h80 false) (by simp) (by simp)
 unfold sa
 by_cases h1:80≤C.length
 ·have h1':(80:Int)≤C.length:=by omega
  have hE:(aK C.length a).1=5:=by rw [qf,if_pos h1]
  have hT:=mz (n:=C.length) (a:=a) (by rw [hE]; decide)
  rw [hE,hT]
  simp [c7,e3,h1,h1',hnm]
  all_goals simp [tz,Tm.enc]
 ·have h1':¬ (80:Int)≤C.length:=by omega
  have hj:=au (CJ a h hp false) (by simp) (by simp)
  have hfr:=au (tC a h 1 hf (by omega) (by have:=aI hp; omega)) (by simp) (by simp)
  have hsm:=au (yR a h hp) (by simp) (by simp)
  by_cases h2:nF a=0
  ·have h2x:=h2
   unfold nF at h2x
   have hh:cY 1 (a.nds 0) []=[]:=by
    by_cases hh:cY 1 (a.nds 0) []=[]
    ·exact hh
    ·simp [hh] at h2x
   have hs:∃ s,a.smp=some s:=by
    cases hs:a.smp with
    | none=>rw [hs] at h2x; split at h2x<;>simp at h2x
    | some s=>exact ⟨s,rfl⟩
   obtain ⟨s,hs⟩:=hs
   rw [hh] at hfr
   rw [hs] at hsm
   simp at hfr hsm
   obtain ⟨g1,g2,g3⟩:=iG hp hs
   have hdm:=au (kB a hf) (by simp) (by simp)
   have hdl:=lh 40 a
   have hLs:=Hf hf hs
   have hLl:=(uL _ _ hLs).1
   have hdp:∀ x∈Tm.doms 40 a,x.ok∧x.proper=true:=fun x hx=>by
    obtain ⟨d1,d2,d3⟩:=Cr 40 a 1 hf x hx
    have:=aI hp
    refine ⟨d3 h,?_⟩
    unfold Tm.proper
    rw [decide_eq_true (by omega),jW x _ _ (by omega) d2]; rfl
   have hlong:eH s 3 C.length=dz s.args.length (.mk 4 3 C.length (cN s.args s.args.length 0)):=by rw [sy,if_neg (by omega)]
   have hlo0:=fun (c:List PV) (tk:Ob)=>Ho (Tm.doms 40 a) s.args C.length (.sl false (ab (C.map mu))) (by simp) (Enc.cells a) [.i 0,.i 0,.i 0,.sl true []] (Enc.cells a) c tk hLs hdp hdl
   have hlok:=uD s g2 3 C.length (by omega) (by omega) (by omega) (by omega)
   have hck:=au (bN _ hlok) (by simp) (by simp)
   rw [hLl] at hlong
   have hll:(cN s.args (Tm.doms 40 a).length 0).length=(Tm.doms 40 a).length:=by rw [my,hLl]
   have hEq:(aK C.length a).1=if (eH s 3 C.length).proper then 0 else 5:=by rw [qf,if_neg h1,if_neg (by rw [h2]; simp),hs]
   have hT2:(eH s 3 C.length).proper=true→(aK C.length a).2=eH s 3 C.length:=fun hq=>by
    unfold aK
    simp [h1,hh,hs,hq]
   have hwi:=fun tt=>au (Ak C (by omega) a false tt) (by simp) (by simp)
   generalize Tm.core 40 a=cr at *
   generalize Tm.doms 40 a=D at *
   have e4:D.length<9223372036854775808:=by omega
   have hDL:D.length≤LIM:=by unfold LIM; omega
   rw [hlong] at hck hT2 hEq
   generalize hR:cN s.args D.length 0=R at *
   have hlo:=hlo0 (Enc.cells cr) (.tok 4 D.length)
   clear hlo0
   simp only [FrR,I1] at hlo
   have hD0:D=[]∨0<D.length:=by cases D<;>simp
   by_cases hall:R.all Tm.proper=true
   ·rw [if_pos hall] at hlo
    simp at hlo
    have fin:∃ cs,LO TT HH [0] cy ([(0,.sl false (ab (C.map mu))),(1,.s ⟨#[]⟩),(9,.ptr 1 0),(11,.ptr 2 0),(16,.ptr 5 0),(114,.i D.length),(115,.i 0)],FrR (Enc.cells a) [.i 0,.i 0,.i 0,.sl true []] (Enc.cells a) (Enc.cells cr) (.tok 4 D.length) [.i 4,.i 3,.i C.length,.ow 6 D.length (ab R)] D.length)=some (.exit 2,[(0,.sl false (ab (C.map mu))),(1,.s ⟨#[]⟩),(9,.ptr 1 0),(11,.ptr 2 0),(16,.ptr 5 0)],FrR (Enc.cells a) [.i 0,.i 0,.i 0,.sl true []] (Enc.cells a) (Enc.cells cr) (.tok 4 D.length) cs D.length)∧(cs=Enc.cells (dz D.length (.mk 4 3 C.length R))∨(cs=[.i 4,.i 3,.i C.length,.ow 6 R.length (ab R)]∧dz D.length (.mk 4 3 C.length R)=.mk 4 3 C.length R)):=by
     cases hk:D.length with
     | zero =>
      rw [hk] at hll
      refine ⟨_,?_,.inr ⟨rfl,rfl⟩⟩
      rw [aP,aF]
      generalize LO TT HH [0] cy=F
      simp [cy,FrR,hll]
     | succ m =>
      rw [hk] at hll
      have hth:=Hn (Enc.cells a) [.i 0,.i 0,.i 0,.sl true []] (Enc.cells a) (Enc.cells cr) (.tok 4 (m+1)) (.sl false (ab (C.map mu))) (m+1) m (nH (.mk 4 3 C.length R)) 1 ((m:Int)+1) (by omega) (by omega) (by simp)
      rw [show ((1:Nat):Int)=1 from rfl] at hth
      refine ⟨_,?_,.inl rfl⟩
      rw [aP,aF]
      generalize LO TT HH [0] cy=F at hth ⊢
      have e1:(0:Int)<(m:Int)+1:=by omega
      have hw:IntKind.i64.wrap 1=1:=ai _ (by omega) (by omega)
      have hlam:∀ bars σ,RR TT HH bars oU [.agg [.i 4,.i 3,.i C.length,.ow 6 (m+1) (ab R)]] σ=some (.ret (nH (.mk 4 3 C.length R)).enc,σ):=fun bars σ=>by
       refine kH ?_ (by simp) (by simp) (by simp) bars σ
       rw [← uQ]
       simp [Tm.enc]
      simp only [FrR] at hth ⊢
      simp at hth
      simp [cy,e1,hw,hlam,hth,aa,dz]
    obtain ⟨cs,hcs,hcs2⟩:=fin
    have hc4:∃ c1 c2 c3 c4,cs=[c1,c2,c3,c4]∧norm.normAll cs=Enc.cells (dz D.length (.mk 4 3 C.length R))∧aj [0] 1 c1=true∧aj [0] 1 c2=true∧aj [0] 1 c3=true∧aj [0] 1 c4=true:=by
     rcases hcs2 with rfl|⟨rfl,h⟩
     ·exact ⟨_,_,_,_,by rw [fK],Enc.nrm _,by simp,by simp,by simp,by simp⟩
     ·exact ⟨_,_,_,_,rfl,by rw [h]; simp [norm.normAll,norm],by simp,by simp,by simp,by simp [aj]⟩
    have hckc:∀ bars σ,RR TT HH bars bt [.agg cs] σ=some (.ret (.b (dz D.length (.mk 4 3 C.length R)).proper),σ):=fun bars σ=>by
     rcases hcs2 with rfl|⟨rfl,h⟩
     ·exact hck bars σ
     ·refine kH ?_ (by simp) (by simp) (by simp) bars σ
      have:=bN _ hlok
      rw [hlong] at this
      rw [← this,h]
      simp [Tm.enc]
    obtain ⟨c1,c2,c3,c4,rfl,hn4,q1,q2,q3,q4⟩:=hc4
    simp only [FrR] at hcs
    simp at hcs
    simp [norm.normAll] at hn4
    by_cases hq:(dz D.length (.mk 4 3 C.length R)).proper=true
    ·rw [hEq,if_pos hq,hT2 hq]
     rw [hq] at hckc
     rcases hD0 with rfl|hD0
     ·simp only [List.length_nil,Int.natCast_zero] at *
      try simp at hlo
      try simp at hcs
      simp [c7,e3,h1,h1',hnm,hj,hfr,hsm,hdm,hlo,hcs,hckc,hwi,q1,q2,q3,q4,aj,aa]
      simp [Tm.enc,hn4]
     ·have hD0':D≠[]:=List.length_pos_iff.1 hD0
      simp [c7,e3,e4,h1,h1',hnm,hj,hfr,hsm,hdm,hDL,hD0,hD0',hlo,hcs,hckc,hwi,q1,q2,q3,q4,aj,aa]
      simp [Tm.enc,hn4]
    ·have hne:(aK C.length a).1≠0:=by rw [hEq,if_neg hq]; decide
     rw [mz hne,hEq,if_neg hq]
     rw [Bool.not_eq_true] at hq
     rw [hq] at hckc
     rcases hD0 with rfl|hD0
     ·simp only [List.length_nil,Int.natCast_zero] at *
      try simp at hlo
      try simp at hcs
      simp [c7,e3,h1,h1',hnm,hj,hfr,hsm,hdm,hlo,hcs,hckc,aj,aa]
      all_goals simp [tz,Tm.enc]
     ·have hD0':D≠[]:=List.length_pos_iff.1 hD0
      simp [c7,e3,e4,h1,h1',hnm,hj,hfr,hsm,hdm,hDL,hD0,hD0',hlo,hcs,hckc,aj,aa]
      all_goals simp [tz,Tm.enc]
   ·rw [if_neg hall] at hlo
    obtain ⟨k,l,hlo⟩:=hlo
    simp at hlo
    have hq:¬ (dz D.length (.mk 4 3 C.length R)).proper=true:=fun hq=>by
     apply hall
     rw [List.all_eq_true]
     intro x hx
     exact aR (uM _ _ hq) hx
    have hne:(aK C.length a).1≠0:=by rw [hEq,if_neg hq]; decide
    rw [mz hne,hEq,if_neg hq]
    rcases hD0 with rfl|hD0
    ·simp only [List.length_nil,Int.natCast_zero] at *
     try simp at hlo
     simp [c7,e3,h1,h1',hnm,hj,hfr,hsm,hdm,hlo,aj,aa]
     all_goals simp [tz,Tm.enc]
    ·have hD0':D≠[]:=List.length_pos_iff.1 hD0
     simp [c7,e3,e4,h1,h1',hnm,hj,hfr,hsm,hdm,hDL,hD0,hD0',hlo,aj,aa]
     all_goals simp [tz,Tm.enc]
  ·have hE:(aK C.length a).1=nF a:=by rw [qf,if_neg h1,if_pos h2]
   have hT:=mz (n:=C.length) (a:=a) (by rw [hE]; exact h2)
   rw [hE,hT,if_neg h2]
   have hkl:(cY 1 (a.nds 0) []).length<9223372036854775808:=by
    have:=sq 1 (a.nds 0) []
    have:=p9 a 0
    have:=aI hp
    simp at *
    omega
   unfold nF at h2 ⊢
   by_cases hh:cY 1 (a.nds 0) []=[]
   ·rw [hh] at hfr
    have hs:a.smp=none:=by
     cases hs:a.smp with
     | none=>rfl
     | some s=>simp [hh,hs] at h2
    rw [hs] at hsm
    simp at hfr hsm
    simp [c7,e3,h1,h1',hnm,hj,hfr,hsm,hh,hs,aa]
    all_goals simp [tz,Tm.enc]
   ·have hh':0<(cY 1 (a.nds 0) []).length:=List.length_pos_iff.2 hh
    simp [c7,e3,h1,h1',hnm,hj,hfr,hkl,hh,hh',aa]
    all_goals simp [tz,Tm.enc]
end Go.Ev

namespace Go.Ev
theorem Hp (c x:Tm) (hc:c.ok) (hp:c.proper=true) (hx:x.ok) (hxp:x.proper=true) (fl:Bool) (bars:List Nat) (σ:Sto):RR TT HH bars eq [c.enc,.sl fl (ab [x])] σ=some (.ret (.tup [(cu c x).2.enc,.i (cu c x).1]),σ) :=
 au (pE c x hc hp hx hxp fl) (by simp) (by simp) bars σ
theorem I2 (n:Nat) (hn:n≤40):∀ (k:Nat) (C l:List Tm) (c:Tm) (i:Nat),CM C→c.ok→c.proper=true→c.mb C.length=true→i+k=n→l.length=i →
  if (cX k C l c).1=0 then LO TT HH [0] bz ([(0,.sl false (ab (C.map mu))),(1,.sl false []),(3,.i n),(6,.ptr 0 0),(10,.ptr 1 0),(12,.ow 2 l.length (ab l)),(13,.i i)],[.var (Enc.cells c),.var [.i 0,.i 0,.i 0,.sl true []],.tok 4 l.length]) =
      some (.exit 0,[(0,.sl false (ab ((cX k C l c).2.1.map mu))),(6,.ptr 0 0),(10,.ptr 1 0),(12,.ow 2 (cX k C l c).2.2.1.length (ab (cX k C l c).2.2.1))],[.var (Enc.cells (cX k C l c).2.2.2),.var [.i 0,.i 0,.i 0,.sl true []],.tok 4 (cX k C l c).2.2.1.length])
  else ∃ a b,LO TT HH [0] bz ([(0,.sl false (ab (C.map mu))),(1,.sl false []),(3,.i n),(6,.ptr 0 0),(10,.ptr 1 0),(12,.ow 2 l.length (ab l)),(13,.i i)],[.var (Enc.cells c),.var [.i 0,.i 0,.i 0,.sl true []],.tok 4 l.length]) =
    some (.ret,[(8,.sl true []),(9,.sl true []),(10,.ptr 1 0),(11,.i (cX k C l c).1)],[a,.var [.i 0,.i 0,.i 0,.sl true []],b]):=by
 intro k
 induction k with
 | zero =>
  intro C l c i hC hc hp hm hi hl
  have e1:¬ (i:Int)<n:=by omega
  simp only [cX,if_true]
  rw [aP,aF]
  generalize LO TT HH [0] bz=F
  simp [bz,e1]
 | succ k ih =>
  intro C l c i hC hc hp hm hi hl
  have e1:(i:Int)<n:=by omega
  have hw:IntKind.i64.wrap ((i:Int)+1)=(i:Int)+1:=ai _ (by omega) (by omega)
  by_cases h2:c.op=2
  ·obtain ⟨a,b,hab,ha,hb⟩:=cz (ar hp) h2
   obtain ⟨hd,hbo⟩:=uE hab
   have hao:a.ok:=hc.sub a (by rw [hab]; simp)
   have hap:a.proper=true:=aR hp (by rw [hab]; simp)
   have hfr:=au (sH hC a hao hap false false) (by simp) (by simp)
   simp only [sa] at hfr
   by_cases h1:(aK C.length a).1=0
   ·rw [if_pos h1,h1] at hfr
    have hmm:=hm
    rw [nK,Bool.and_eq_true] at hmm
    obtain ⟨f1,f2,f3,f4,f5,f6,f7⟩:=sA hC hao hap (mbL_mem.1 hmm.2 a (by rw [hab]; simp)) h1
    have hin:=Hp c (aK C.length a).2 hc hp f2 f3 true
    have hce:c.enc=.agg [.i 2,.i c.hd,.i c.n,.sl false [[.i a.op,.i a.hd,.i a.n,.sl false (ab a.args)],[.i b.op,.i b.hd,.i b.n,.sl false (ab b.args)]]]:=by simp [Tm.enc,h2,hab,aB]
    rw [hce] at hin
    by_cases h3:(cu c (aK C.length a).2).1=0
    ·have hst:cJ C.length c=(0,(aK C.length a).2,(cu c (aK C.length a).2).2):=by simp [cJ,hd,h1,h3]
     have hs1:(cJ C.length c).1=0:=by rw [hst]
     obtain ⟨-,-,g1,g2,g3,g4,g5,g6,g7,-⟩:=sB hC hc hp hm h2 hs1
     rw [hst] at g2 g3 g4 g5 g6 g7
     have hth:=ih (C++[c.dom]) (l++[(aK C.length a).2]) (cu c (aK C.length a).2).2 (i+1) g1 g5 g6 (by simpa using g7) (by omega) (by simp [hl])
     rw [CA h2 hs1,hst]
     have hLO:LO TT HH [0] bz ([(0,.sl false (ab (C.map mu))),(1,.sl false []),(3,.i n),(6,.ptr 0 0),(10,.ptr 1 0),(12,.ow 2 l.length (ab l)),(13,.i i)],[.var (Enc.cells c),.var [.i 0,.i 0,.i 0,.sl true []],.tok 4 l.length]) =
       LO TT HH [0] bz ([(0,.sl false (ab ((C++[c.dom]).map mu))),(1,.sl false []),(3,.i n),(6,.ptr 0 0),(10,.ptr 1 0),(12,.ow 2 (l++[(aK C.length a).2]).length (ab (l++[(aK C.length a).2]))),(13,.i ((i+1:Nat):Int))],[.var (Enc.cells (cu c (aK C.length a).2).2),.var [.i 0,.i 0,.i 0,.sl true []],.tok 4 (l++[(aK C.length a).2]).length]):=by
      rw [aP,aF]
      generalize LO TT HH [0] bz=F
      have hl1:l.length+1≤LIM:=by unfold LIM; omega
      rw [h3] at hin
      simp [aB] at hin
      rw [hd]
      simp [bz,e1,hw,h2,hab,hfr,hin,hl1,aa,aB,aj]
     rw [hLO]
     exact hth
    ·have htz:=sE c _ h3
     have hst1:(cJ C.length c).1=(cu c (aK C.length a).2).1:=by simp [cJ,hd,h1]
     rw [va h2 (by rw [hst1]; exact h3),hst1]
     simp only [h3,if_false]
     refine ⟨.var (Enc.cells c),.tok 4 l.length,?_⟩
     rw [aP,aF]
     generalize LO TT HH [0] bz=F
     rw [htz] at hin
     simp [aB] at hin
     simp [bz,e1,hw,h2,h3,hab,hfr,hin,aa,aB,aj]
   ·have hst1:(cJ C.length c).1=(aK C.length a).1:=by simp [cJ,hd,h1]
    rw [if_neg h1] at hfr
    rw [va h2 (by rw [hst1]; exact h1),hst1]
    simp only [h1,if_false]
    refine ⟨.var (Enc.cells c),.tok 4 l.length,?_⟩
    rw [aP,aF]
    generalize LO TT HH [0] bz=F
    simp [bz,e1,hw,h2,h1,hab,hfr,aa,aB,aj]
  ·rw [Hi h2]
   simp only [show ¬ ((23:Int)=0) by decide,if_false]
   refine ⟨.var (Enc.cells c),.tok 4 l.length,?_⟩
   rw [aP,aF]
   generalize LO TT HH [0] bz=F
   simp [bz,e1,h2,aa,aj]
def NH (R:Int×List Tm×List Tm×Tm):PV:=if R.1=0 then .tup [.sl false (ab (R.2.1.map mu)),.sl false (ab R.2.2.1),R.2.2.2.enc,.i 0] else .tup [.sl false [],.sl false [],tz.enc,.i R.1]
theorem Al (c:Tm) (hc:c.ok) (hp:c.proper=true) (hm:c.mb 0=true) (n:Nat) (hn:n≤40) (f1 f2:Bool) :
  az TT HH [] pL [.sl f1 [],.sl f2 [],c.enc,.i n] []=some (.ret (NH (cX n [] [] c)),[]):=by
 rw [C1]
 have hn0:¬ (n:Int)<0:=by omega
 have hop:=I2 n hn n [] [] c 0 qN hc hp (by simpa using hm) (by omega) rfl
 unfold NH
 by_cases he:(cX n [] [] c).1=0
 ·rw [if_pos he] at hop ⊢
  generalize cX n [] [] c=R at *
  simp at hop
  simp [ou,hop,hn0,aj,aa]
  all_goals simp [Tm.enc]
 ·rw [if_neg he] at hop ⊢
  obtain ⟨a,b,hop⟩:=hop
  generalize cX n [] [] c=R at *
  simp at hop
  simp [ou,hop,hn0,aj,aa]
  all_goals simp [tz,Tm.enc]
end Go.Ev

namespace Go.Ev
theorem Am (t:Tm) (z:List PV) (x:Tm) (b:Int) (bars:List Nat) (ext:Sto) (h0:0≤b) (h1:b≤100) (hn:x.op=4→0≤x.n∧x.n≤9999) (hn':I64 x.n) (hv:isV 0 (x,b)=false) :
  RR TT HH bars dT [x.enc,.i b,.ptr 2 0,.ptr 4 0,.ptr 1 0,.ptr 5 0] (SH t (-1) 0 z false false++ext)=some (.ret (.tup []),SH t (-1) 0 z false false++ext):=by
 rw [aX (by simp) (by simp),tw]
 obtain ⟨op,hd,n,args⟩:=x
 simp only [Tm.op_mk,Tm.n_mk] at hn hn'
 have hw1:IntKind.i64.wrap 1=1:=ai _ (by omega) (by omega)
 by_cases a:op=4
 ·obtain ⟨n0,n1⟩:=hn a
  have hw:IntKind.i64.wrap (n - b)=n - b:=ai _ (by omega) (by omega)
  have hw2:IntKind.i64.wrap (n+-1)=n+-1:=ai _ (by omega) (by omega)
  by_cases c:hd=1
  ·have hne:n≠b:=fun e=>by simp [isV,a,c,e] at hv
   by_cases e:b≤n
   ·have e1:(0:Int)≤n - b:=by omega
    have e2:¬ n - b<1:=by omega
    have e3:¬ 9999<n+-1:=by omega
    simp [da,SH,a,c,e,e1,e2,e3,hw,hw1,hw2]
   ·have e1:¬ (0:Int)≤n - b:=by omega
    simp [da,SH,a,c,e,e1,hw]
  ·simp [da,SH,a,c,hw]
 ·simp [da,SH,a]
theorem DC (t:Tm) (h:t.ok) (hp:t.proper=true) (ho:occ t 0=false):az TT HH [] iN [t.enc,.i (-1),.i 0] []=some (.ret (.tup [(t.moved (-1) 0).enc,.i 0]),[]):=by
 rw [vB]
 have h1:=au (bO t h) (by simp) (by simp)
 rw [hp] at h1
 have hfm:=ar hp
 have hn:=aI hp
 have h2:∀ bars z,RR TT HH bars ck [t.enc,.i 0,.fn (.func dT) [.ptr 2 0,.ptr 4 0,.ptr 1 0,.ptr 5 0]] (SH t (-1) 0 z false false)=some (.ret (.tup []),SH t (-1) 0 z false false):=fun bars z=>by
  rw [aX (by simp) (by simp)]
  have:=jX dT [.ptr 2 0,.ptr 4 0,.ptr 1 0,.ptr 5 0] (by simp) (by simp) (fun (_:Unit)=>SH t (-1) 0 z false false) (fun s _=>s) 6 (fun _=>rfl) (fun n hn=>by simp; omega) (fun y=>(y.1.op=4→0≤y.1.n∧y.1.n≤9999)∧I64 y.1.n∧0≤y.2∧y.2≤100∧isV 0 y=false)
   (fun x b _ bars ext hg=>Am t z x b bars ext hg.2.2.1 hg.2.2.2.1 hg.1 hg.2.1 hg.2.2.2.2) t h 0 1 () bars [] hfm (by omega) (by omega) (fun y hy=>by
    have h3:=kA hfm (by omega) hy
    refine ⟨fun h4=>(jq h3.1 h4).2.2,(AF t 0 h y hy).here.2.2.1,h3.2.1,by omega,?_⟩
    unfold occ at ho
    rw [List.any_eq_false] at ho
    simpa using ho y hy)
  simpa using this
 simp only [SH,fK] at h2
 have h3:=au (tD t h (-1) 0 1 (by omega) (by omega) (by omega) hfm (by omega) (by omega)) (by simp) (by simp)
 simp [jo,h1,h2,h3,aj,aa]
def NI (R:Int×List Tm×Tm) (sig:PV) (r:Option (Ex×Env×Sto)):Prop :=
 if R.1=0 then ∃ w,Hg w R.2.1∧r=some (.exit 0,[(0,sig),(4,.ptr 0 0),(6,w),(7,.ptr 1 0)],[.var [.sl true [],.sl true []],.var (Enc.cells R.2.2)])
 else ∃ a,r=some (.ret,[(4,.ptr 0 0),(5,.i R.1)],[.var [.sl true [],.sl true []],a])
set_option maxHeartbeats 1000000 in
theorem NJ {E:Tm→Prop} (hE:Stab E) (sig:PV) (bs:below 0 sig=true) (P:List Bool) (hP:P.length≤40):∀ (D:List Bool) (C:List Tm) (c:Tm) (i:Nat) (v:PV),CM C→c.ok→c.proper=true→c.mb C.length=true→PC E D c→P.drop i=D.map (!·)→i+D.length=P.length→Hg v C →
  NI (gm D C c) sig (LO TT HH [0] aU ([(0,sig),(4,.ptr 0 0),(6,v),(7,.ptr 1 0),(21,.sl false (ab P)),(22,.i P.length),(23,.i i)],[.var [.sl true [],.sl true []],.var (Enc.cells c)])):=by
 have b2:=bk (Nat.zero_le 2) sig bs
 intro D
 induction D with
 | nil =>
  intro C c i v hC hc hp hm hD hdr hi hv
  obtain ⟨fl,rfl⟩:=oN hv
  simp only [List.length_nil,Nat.add_zero] at hi
  unfold NI
  simp only [gm,if_true]
  refine ⟨_,hv,?_⟩
  rw [aP,aF]
  generalize LO TT HH [0] aU=F
  simp [aU,hi,b2]
 | cons d r ih =>
  intro C c i v hC hc hp hm hD hdr hi hv
  obtain ⟨fl,rfl⟩:=oN hv
  simp only [List.length_cons] at hi
  have e1:(i:Int)<P.length:=by omega
  have e1':i<P.length:=by omega
  have hw:IntKind.i64.wrap ((i:Int)+1)=(i:Int)+1:=ai _ (by omega) (by omega)
  obtain ⟨x,hx,hxm,hxd⟩:=eQ e1'
  rw [hxd] at hdr
  simp only [List.map_cons,List.cons.injEq] at hdr
  obtain ⟨rfl,hdr⟩:=hdr
  obtain ⟨a,b,h2,hab,hdf,hr⟩:=hD
  have hD':PC E (d::r) c:=⟨a,b,h2,hab,hdf,hr⟩
  obtain ⟨hda,hbo⟩:=uE hab
  have hao:a.ok:=hc.sub a (by rw [hab]; simp)
  have hap:a.proper=true:=aR hp (by rw [hab]; simp)
  have hce:c.enc=.agg [.i 2,.i c.hd,.i c.n,.sl false [[.i a.op,.i a.hd,.i a.n,.sl false (ab a.args)],[.i b.op,.i b.hd,.i b.n,.sl false (ab b.args)]]]:=by simp [Tm.enc,h2,hab,aB]
  cases d with
  | false =>
   obtain ⟨-,ho,b1,b2',b3,b4,b5,b6⟩:=IJ hE hc hp hD'
   rw [hbo] at ho b1 b2' b3 b4 b5 b6
   have hsh:=au (DC b b1 b2' ho) (by simp) (by simp)
   have hth:=ih C (b.moved (-1) 0) (i+1) (.sl fl (ab (C.map mu))) hC b3 b4 (b5 _ hm) b6 hdr (by omega) hv
   rw [show gm (false::r) C c=gm r C (c.bod.moved (-1) 0) from rfl,hbo]
   have hLO:LO TT HH [0] aU ([(0,sig),(4,.ptr 0 0),(6,.sl fl (ab (C.map mu))),(7,.ptr 1 0),(21,.sl false (ab P)),(22,.i P.length),(23,.i i)],[.var [.sl true [],.sl true []],.var (Enc.cells c)]) =
     LO TT HH [0] aU ([(0,sig),(4,.ptr 0 0),(6,.sl fl (ab (C.map mu))),(7,.ptr 1 0),(21,.sl false (ab P)),(22,.i P.length),(23,.i ((i+1:Nat):Int))],[.var [.sl true [],.sl true []],.var (Enc.cells (b.moved (-1) 0))]):=by
    rw [aP,aF]
    generalize LO TT HH [0] aU=F
    simp [aU,e1,hx,hw,hab,hsh,aB,aa,aj,b2]
   rw [hLO]
   exact hth
  | true =>
   have hmm:=hm
   rw [nK,Bool.and_eq_true] at hmm
   have ham:=mbL_mem.1 hmm.2 a (by rw [hab]; simp)
   have hfr:=au (Ag hC a hao hap ham fl true) (by simp) (by simp)
   simp only [sa] at hfr
   by_cases h1:(aK C.length a).1=0
   ·rw [if_pos h1,h1] at hfr
    obtain ⟨f1,f2,f3,f4,f5,f6,f7⟩:=sA hC hao hap ham h1
    have hin:=Hh c (aK C.length a).2 hc hp f2 f3 true
    rw [hce] at hin
    by_cases h3:(cu c (aK C.length a).2).1=0
    ·have hst:cJ C.length c=(0,(aK C.length a).2,(cu c (aK C.length a).2).2):=by simp [cJ,hda,h1,h3]
     have hs1:(cJ C.length c).1=0:=by rw [hst]
     obtain ⟨-,-,g1,g2,g3,g4,g5,g6,g7,g8⟩:=sB hC hc hp hm h2 hs1
     rw [hst] at g2 g3 g4 g5 g6 g7 g8
     have hth:=ih (C++[c.dom]) (cu c (aK C.length a).2).2 (i+1) (.sl false (ab ((C++[c.dom]).map mu))) g1 g5 g6 (by simpa using g7) (g8 E hE true r hD') hdr (by omega) (.inl rfl)
     rw [show gm (true::r) C c=gm r (C++[c.dom]) (cu c (aK C.length a).2).2 by rw [gm,hst]; simp]
     have hLO:LO TT HH [0] aU ([(0,sig),(4,.ptr 0 0),(6,.sl fl (ab (C.map mu))),(7,.ptr 1 0),(21,.sl false (ab P)),(22,.i P.length),(23,.i i)],[.var [.sl true [],.sl true []],.var (Enc.cells c)]) =
       LO TT HH [0] aU ([(0,sig),(4,.ptr 0 0),(6,.sl false (ab ((C++[c.dom]).map mu))),(7,.ptr 1 0),(21,.sl false (ab P)),(22,.i P.length),(23,.i ((i+1:Nat):Int))],[.var [.sl true [],.sl true []],.var (Enc.cells (cu c (aK C.length a).2).2)]):=by
      rw [aP,aF]
      generalize LO TT HH [0] aU=F
      rw [h3] at hin
      simp [aB] at hin
      rw [hda]
      simp [aU,e1,hx,hw,h2,hab,hfr,hin,aB,aa,aj,b2]
     rw [hLO]
     exact hth
    ·have htz:=sE c _ h3
     have hst1:(cJ C.length c).1=(cu c (aK C.length a).2).1:=by simp [cJ,hda,h1]
     rw [show gm (true::r) C c=((cu c (aK C.length a).2).1,[],tz) by rw [gm,hst1,if_pos h3]]
     unfold NI
     simp only [h3,if_false]
     rw [htz] at hin
     simp [aB] at hin
     rw [aP,aF]
     generalize LO TT HH [0] aU=F
     simp [aU,e1,hx,hw,h2,h3,hab,hfr,hin,aB,aa,aj,b2]
   ·have hst1:(cJ C.length c).1=(aK C.length a).1:=by simp [cJ,hda,h1]
    rw [if_neg h1] at hfr
    rw [show gm (true::r) C c=((aK C.length a).1,[],tz) by rw [gm,hst1,if_pos h1]]
    unfold NI
    simp only [h1,if_false]
    rw [aP,aF]
    generalize LO TT HH [0] aU=F
    simp [aU,e1,hx,hw,h2,h1,hab,hfr,aB,aa,aj,b2]
end Go.Ev
