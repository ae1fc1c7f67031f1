/- split.Pattern. -/
import Derived.Test.YtfbichemhllhbaaGreatEvI
set_option linter.unnecessarySimpa false
set_option linter.unusedVariables false
set_option linter.unusedSimpArgs false
set_option linter.unusedSectionVars false
namespace Go.Ev
def dc0:Dc:=⟨ByteArray.empty,tz,0⟩
def jY (sig:List Dc) (n:Int):Tm:=(sig.getD n.toNat dc0).class_
def vq (sig:List Dc) (n:Int):Int×List Tm×List Tm :=
 if (gm (bv 40 (jY sig n)) [] (jY sig n)).1≠0 then ((gm (bv 40 (jY sig n)) [] (jY sig n)).1,[],[]) else
 if (gm (bv 40 (jY sig n)) [] (jY sig n)).2.2.args.length≠(Tm.doms 40 (jY sig (gm (bv 40 (jY sig n)) [] (jY sig n)).2.2.n)).length then (23,[],[]) else
 (0,rq (gm (bv 40 (jY sig n)) [] (jY sig n)).2.1 (gm (bv 40 (jY sig n)) [] (jY sig n)).2.2.args)
theorem JP:∀ (l b:List Dc) (i:Nat) (d:Dc),sgF b l=true→l[i]? = some d→okD (b++l.take i) d=true:=by
 intro l
 induction l with
 | nil=>intro b i d _ h; simp at h
 | cons a r ih =>
  intro b i d h hd
  rw [sgF] at h
  simp only [Bool.and_eq_true] at h
  cases i with
  | zero=>simp at hd; subst hd; simpa using h.1.1
  | succ i =>
   simp at hd
   have:=ih (b++[a]) i d h.2 hd
   simpa using this
theorem I3 {sig:List Dc} {n:Int} {d:Dc} (hk:fD sig=true) (hd:sig[n.toNat]? = some d) (hf:fd sig n=false) :
  E4 (Tm.core 40 d.class_).n (Tm.core 40 d.class_).args.length (Tm.core 40 d.class_)∧0≤(Tm.core 40 d.class_).n∧∃ d',sig[(Tm.core 40 d.class_).n.toNat]? = some d'∧d'∈sig:=by
 unfold fD at hk
 simp only [Bool.and_eq_true] at hk
 have h1:=JP sig [] n.toNat d hk.2 hd
 have hp:=(nZ (by unfold fD; simp only [Bool.and_eq_true]; exact hk) (List.mem_of_getElem? hd)).1
 simp only [List.nil_append] at h1
 unfold okD at h1
 simp only [Bool.and_eq_true] at h1
 have h2:=h1.2
 unfold fd at hf
 rw [hd] at hf
 simp only [decide_eq_false_iff_not] at hf
 unfold tgt at h2
 simp only [hf,decide_false,Bool.false_or,Bool.and_eq_true,decide_eq_true_eq] at h2
 obtain ⟨c4,c2,cf⟩:=h2
 obtain ⟨d',hcf⟩:=GT 40 d.class_ 1 (ar hp)
 have hn0:=(jq (fw hcf) c4).2.2.1
 refine ⟨⟨c4,c2,rfl,rfl⟩,hn0,?_⟩
 unfold fd at cf
 cases hg:(sig.take n.toNat)[(Tm.core 40 d.class_).n.toNat]? with
 | none=>rw [hg] at cf; cases cf
 | some e =>
  have:=List.mem_of_getElem? hg
  refine ⟨e,?_,List.mem_of_mem_take this⟩
  rw [List.getElem?_take] at hg
  split at hg
  ·exact hg
  ·cases hg
theorem wk (sig:List Dc) (hl:sig.length≤maxLen) (hs:∀ d∈sig,d.ok) (n:Int) (hk:fD sig=true) (hn:sb sig n=true) (hf:fd sig n=false):az TT HH [] lu [.sl false (ab sig),.i n] []=some (.ret (rB (vq sig n)),[]):=by
 rw [x7]
 obtain ⟨d,hd,hm,h0,hlt,dok,dp,dm⟩:=sG hs hk hn
 have hgd:jY sig n=d.class_:=by unfold jY; rw [List.getD_eq_getElem?_getD,hd]; rfl
 obtain ⟨t1,t2,d',td,tm⟩:=I3 hk hd hf
 have hpc:=JE 40 d.class_ 1 (ar dp) (by omega) t1
 have hip:=au (uO d.class_ dok dp) (by simp) (by simp)
 have hdl:=tu 40 d.class_
 have hst:=Ft (Tm.core 40 d.class_).n (Tm.core 40 d.class_).args.length
 have hlo:=NJ hst (.sl false (ab sig)) (by simp) ((bv 40 d.class_).map (!·)) (by simpa using hdl) (bv 40 d.class_) [] d.class_ 0 (.sl true []) qN dok dp (by simpa using dm) hpc (by simp) (by simp) (.inr ⟨rfl,rfl⟩)
 have hok:=Fu hst (bv 40 d.class_) [] d.class_ qN dok dp (by simpa using dm) hpc
 have e3:(bv 40 d.class_).length<9223372036854775808:=by omega
 unfold vq rB
 rw [hgd]
 unfold NI at hlo
 by_cases he:(gm (bv 40 d.class_) [] d.class_).1=0
 ·rw [if_pos he] at hlo
  obtain ⟨w,hw,hlo⟩:=hlo
  obtain ⟨o1,o2,o3,o4,o5⟩:=hok he
  generalize gm (bv 40 d.class_) [] d.class_=R at *
  obtain ⟨fl,rfl⟩:=oN hw
  obtain ⟨c1,c2,c3,c4⟩:=o5
  have hgn:jY sig R.2.2.n=d'.class_:=by unfold jY; rw [c3,List.getD_eq_getElem?_getD,td]; rfl
  have har:=au (sF sig R.2.2.n d' (by rw [c3]; exact t2) (by rw [c3]; exact td) (ar (nZ hk tm).1)) (by simp) (by simp)
  have hargs:∀ x∈R.2.2.args,x.ok∧x.proper=true∧x.mb R.2.1.length=true:=fun x hx=>⟨o2.sub x hx,aR o3 hx,by rw [nK,Bool.and_eq_true] at o4; exact mbL_mem.1 o4.2 x hx⟩
  have hal:=eG R.2.2.args
  have hne:=en R.2.2
  have hnp:=aI o3
  have e4:R.2.2.args.length<9223372036854775808:=by omega
  have e5:(Tm.doms 40 d'.class_).length<9223372036854775808:=by have:=lh 40 d'.class_; omega
  have hcp:=au (qR o1 R.2.2.args hargs (by omega)) (by simp) (by simp)
  rw [hgn]
  simp at hlo
  simp only [he,ne_eq,not_true,if_false]
  by_cases ha:R.2.2.args.length=(Tm.doms 40 d'.class_).length
  ·have ha':(R.2.2.args.length:Int)=(Tm.doms 40 d'.class_).length:=by omega
   simp only [ha,not_true,if_false,if_true,dO]
   simp [il,h0,hlt,hd,hip,e3,e4,e5,hlo,har,ha,hcp,aj,aa,-getElem?_pos,List.getElem?_cons_zero,List.getElem?_cons_succ,List.getElem?_nil,ak,aw,aq,ax,ay,ag,af,take_set,ae]
  ·have ha':¬ (R.2.2.args.length:Int)=(Tm.doms 40 d'.class_).length:=by omega
   simp only [ha,not_false_iff,if_true,show ¬ ((23:Int)=0) by decide,if_false,dO]
   simp [il,h0,hlt,hd,hip,e3,e4,e5,hlo,har,ha,ha',aj,aa,-getElem?_pos,List.getElem?_cons_zero,List.getElem?_cons_succ,List.getElem?_nil,ak,aw,aq,ax,ay,ag,af,take_set,ae]
 ·rw [if_neg he] at hlo
  obtain ⟨a,hlo⟩:=hlo
  generalize gm (bv 40 d.class_) [] d.class_=R at *
  simp at hlo
  simp only [he,ne_eq,not_false_iff,if_true,if_false,dO]
  simp [il,h0,hlt,hd,hip,e3,hlo,aj,aa,-getElem?_pos,List.getElem?_cons_zero,List.getElem?_cons_succ,List.getElem?_nil,ak,aw,aq,ax,ay,ag,af,take_set,ae]
theorem wl (sig:List Dc) (hl:sig.length≤maxLen) (hs:∀ d∈sig,d.ok) (n:Int):az TT HH [] i5 [.sl false (ab sig),.i n] []=some (.ret (if pz sig n=0 then (if fd sig n then .tup [dO [] [],.i 22] else rB (vq sig n)) else .tup [dO [] [],.i (pz sig n)]),[]):=by
 rw [xX]
 have h1:=au (wi sig hl hs n) (by simp) (by simp)
 by_cases he:pz sig n=0
 ·have hk:fD sig=true∧sb sig n=true:=by
   unfold pz at he
   cases hk:fD sig<;>cases hn:sb sig n<;>simp [hk,hn] at he ⊢
  rw [if_pos he]
  cases hf:fd sig n with
  | true =>
   rw [hf,he] at h1
   simp [fF,h1,dO]
  | false =>
   rw [hf,he] at h1
   have h2:=au (wk sig hl hs n hk.1 hk.2 hf) (by simp) (by simp)
   unfold rB dO at h2 ⊢
   by_cases hz:(vq sig n).1=0
   ·simp only [hz,if_true] at h2
    simp [fF,h1,h2,hz]
   ·simp only [hz,if_false] at h2
    simp [fF,h1,h2,hz]
 ·rw [if_neg he]
  simp [fF,h1,he,dO]
end Go.Ev

namespace Go.Ev
theorem tI:∀ a:Tm,a.ok→∀ b:Tm,b.ok→∃ r:Bool,az TT HH [] dQ [a.enc,b.enc] []=some (.ret (.b r),[])∧(a=b→r=true) :=
 Tm.ind fun a ih ha b hb=>by
  rw [CZ]
  have e3:=ml ha.len
  have e4:=ml hb.len
  by_cases h1:a.op=b.op
  ·by_cases h2:a.hd=b.hd
   ·by_cases h3:a.n=b.n
    ·by_cases h4:a.args.length=b.args.length
     ·have hlo:=gJ (T:=TT) (H:=HH) (b:=[0]) (A:=i9) a.args
       (fun i (_:Unit)=>([(2,.ptr 0 0),(3,.ptr 1 0),(5,.i i)],[.var (Enc.cells a),.var (Enc.cells b)]))
       (fun r i _ y=>(y=(.exit 0,[],[.var (Enc.cells a),.var (Enc.cells b)]))∨(a≠b∧y=(.ret,[(4,.b false)],[.var (Enc.cells a),.var (Enc.cells b)])))
       (fun _ _=>True)
       (fun _ _=>by
        refine ⟨_,?_,by simp,.inl rfl⟩
        rw [aF]
        simp [i9,e3])
       (fun i x r _ hx hm hd hi _=>by
        have e1:(i:Int)<a.args.length:=by omega
        have hw:IntKind.i64.wrap ((i:Int)+1)=(i:Int)+1:=ai _ (by omega) (by omega)
        obtain ⟨y,hy,hym,-⟩:=eQ (l:=b.args) (i:=i) (by omega)
        have e2:(i:Int)<b.args.length:=by omega
        obtain ⟨q,hq,hq2⟩:=ih x hm (ha.sub x hm) y (hb.sub y hym)
        have hq:=au hq (by simp) (by simp)
        cases q with
        | true =>
         refine .inr ⟨(),?_,trivial,fun y hy=>hy⟩
         rw [aF]
         simp [i9,e1,e2,e3,hx,hy,hq,hw,aa,-getElem?_pos,List.getElem?_cons_zero,List.getElem?_cons_succ,List.getElem?_nil,ak,aw,aq,ax,ay,ag,af,take_set,ae]
        | false =>
         refine .inl ⟨_,?_,by simp,.inr ⟨fun hab=>?_,rfl⟩⟩
         ·rw [aF]
          simp [i9,e1,e2,e3,hx,hy,hq,hw,aa,-getElem?_pos,List.getElem?_cons_zero,List.getElem?_cons_succ,List.getElem?_nil,ak,aw,aq,ax,ay,ag,af,take_set,ae]
         ·subst hab
          rw [hx] at hy
          have:=hq2 (Option.some.inj hy)
          cases this) 0 () (by omega) trivial
      obtain ⟨y,hy,hq⟩:=hlo
      have h4':(a.args.length:Int)=b.args.length:=by omega
      rcases hq with rfl|⟨hne,rfl⟩
      ·refine ⟨true,?_,fun _=>rfl⟩
       simp [h1,h2,h3] at hy
       simp [fC,h1,h2,h3,h4,h4',e3,e4,hy,aj]
      ·refine ⟨false,?_,fun h=>absurd h hne⟩
       simp [h1,h2,h3] at hy
       simp [fC,h1,h2,h3,h4,h4',e3,e4,hy,aj]
     ·have h4':¬ (a.args.length:Int)=b.args.length:=by omega
      refine ⟨false,?_,fun h=>absurd (h ▸ rfl) h4⟩
      simp [fC,h1,h2,h3,h4,h4',e3,e4,aj]
    ·refine ⟨false,?_,fun h=>absurd (h ▸ rfl) h3⟩
     simp [fC,h1,h2,h3,aj]
   ·refine ⟨false,?_,fun h=>absurd (h ▸ rfl) h2⟩
    simp [fC,h1,h2,aj]
  ·refine ⟨false,?_,fun h=>absurd (h ▸ rfl) h1⟩
   simp [fC,h1,aj]
theorem qT (sig:List Dc) (hl:sig.length≤maxLen) (n:Int):az TT HH [] mj [.sl false (ab sig),.i n] []=some (.ret (.b (sb sig n)),[]):=by
 rw [EX]
 have e3:=ml hl
 unfold sb
 by_cases a:0≤n
 ·by_cases b:n<sig.length<;>simp [pU,e3,a,b]
 ·simp [pU,e3,a]
theorem kQ (sig:List Dc) (n:Int) (d:Dc) (h0:0≤n) (hd:sig[n.toNat]? = some d) (h:d.class_.formed 1=true):az TT HH [] fE [.sl false (ab sig),.i n] []=some (.ret (.b (fd sig n)),[]):=by
 rw [wO]
 have h1:=au (rn sig n d h0 hd h) (by simp) (by simp)
 simp [m6,h1]
end Go.Ev

namespace Go.Ev
def kN (sig:List Dc):PV:=.agg [.sl false (ab sig),.sl false []]
@[simp] theorem Um (n:Nat) (sig:List Dc):below n (kN sig)=true:=by simp [kN]
@[simp] theorem U1 (sig:List Dc):norm (kN sig)=kN sig:=by simp [kN]
@[simp] theorem Vw (sig:List Dc):okc (kN sig)=true:=rfl
@[simp] theorem Un (sig:List Dc):Go.Ev.cells (kN sig)=[.sl false (ab sig),.sl false []]:=rfl
structure CX (ctx:List Tm):Prop where
 all:∀ x∈ctx,x.ok∧x.proper=true
 len:ctx.length≤30
theorem NK {ctx:List Tm} (h:CX ctx) (a:Tm) (ha:a.ok) (hp:a.proper=true) (hl:ctx.length<30):CX (ctx++[a]):=⟨fun x hx=>by
 rcases List.mem_append.1 hx with hx|hx
 ·exact h.all x hx
 ·simp at hx; subst hx; exact ⟨ha,hp⟩,by simp; omega⟩
theorem rC (ctx:List Tm) (h:CX ctx) (a:Tm) (fc:Bool):az TT HH [] jR [.sl fc (ab ctx),a.enc] []=some (.ret (if ctx.length<30 then .tup [.sl false (ab (ctx++[a])),.i 0] else .tup [.sl false [],.i 5]),[]):=by
 rw [zU]
 have hl:=h.len
 have e3:ctx.length<9223372036854775808:=by omega
 have hl1:ctx.length≤LIM:=by unfold LIM; omega
 have hl2:ctx.length+1≤LIM:=by unfold LIM; omega
 have l1:1≤LIM:=by decide
 by_cases hc:ctx.length<30
 ·have hc':¬ (30:Int)≤ctx.length:=by omega
  cases ctx with
  | nil=>simp [jf,l1,aj,aB]
  | cons x r =>
   have hal:bV 4 (ab (x::r))=true:=Kh _
   have hxl:(ab (x::r)).length=r.length+1:=by simp
   simp at hl1 hl2 e3 hc
   have hc2:¬ (30:Int)≤(r.length:Int)+1:=by omega
   have hc3:decide ((30:Int)≤(r.length:Int)+1)=false:=by simp only [decide_eq_false_iff_not]; omega
   simp [jf,hc,hc2,hc3,e3,hl1,hl2,aj]
 ·have hc':(30:Int)≤ctx.length:=by omega
  simp [jf,hc,hc',e3]
def SG (sig:List Dc):Prop:=sig.length≤maxLen∧∀ d∈sig,d.ok∧d.class_.proper=true
theorem yS (sig:List Dc) (hS:SG sig) (ctx:List Tm) (hc:CX ctx) (m:Tm) (hm:m.ok) (hp:m.proper=true) (h4:m.op=4) (fc:Bool) :
  ∃ (r:Tm) (e:Int),az TT HH [] gE [kN sig,.sl fc (ab ctx),m.enc] []=some (.ret (.tup [r.enc,.i e]),[])∧(e=0→r.ok∧r.proper=true):=by
 rw [tR]
 obtain ⟨hd1,hd3,hn0,hn1⟩:=jq (fw (ar hp)) h4
 have hcl:=hc.len
 have e3:ctx.length<9223372036854775808:=by omega
 have e5:=ml hS.1
 by_cases a1:m.hd=1
 ·by_cases b1:m.n<ctx.length
  ·have b1':¬ (ctx.length:Int)≤m.n:=by omega
   obtain ⟨x,hx,hxm,-⟩:=eQ (l:=ctx) (i:=((ctx.length:Int) - 1 - m.n).toNat) (by omega)
   obtain ⟨xo,xp⟩:=hc.all x hxm
   have hw1:IntKind.i64.wrap ((ctx.length:Int) - 1)=(ctx.length:Int) - 1:=ai _ (by omega) (by omega)
   have hw2:IntKind.i64.wrap ((ctx.length:Int) - 1 - m.n)=(ctx.length:Int) - 1 - m.n:=ai _ (by omega) (by omega)
   have hw3:IntKind.i64.wrap (m.n+1)=m.n+1:=ai _ (by omega) (by omega)
   have i0:(0:Int)≤(ctx.length:Int) - 1 - m.n:=by omega
   have i1:(ctx.length:Int) - 1 - m.n<ctx.length:=by omega
   have i2:m.n≤(ctx.length:Int) - 1:=by omega
   have hsh:=au (Cg x xo (m.n+1) 0 (by omega) (by omega) (by omega) (by omega) xp) (by simp) (by simp)
   by_cases hq:(x.moved (m.n+1) 0).proper=true
   ·rw [if_pos hq] at hsh
    refine ⟨x.moved (m.n+1) 0,0,?_,fun _=>⟨o0 x xo _ 0 1 (by omega) (by omega) (ar xp),hq⟩⟩
    simp [bT,a1,b1,b1',e3,hx,hw1,hw2,hw3,i0,i1,i2,hsh,aa,aj,-getElem?_pos,List.getElem?_cons_zero,List.getElem?_cons_succ,List.getElem?_nil,ak,aw,aq,ax,ay,ag,af,take_set,ae]
   ·rw [if_neg hq] at hsh
    refine ⟨tz,5,?_,fun h=>by cases h⟩
    simp [bT,a1,b1,b1',e3,hx,hw1,hw2,hw3,i0,i1,i2,hsh,aa,aj,-getElem?_pos,List.getElem?_cons_zero,List.getElem?_cons_succ,List.getElem?_nil,ak,aw,aq,ax,ay,ag,af,take_set,ae]
  ·have b1':(ctx.length:Int)≤m.n:=by omega
   refine ⟨tz,27,?_,fun h=>by cases h⟩
   simp [bT,a1,b1,b1',e3,aa,aj]
   simp [tz,Tm.enc]
 ·by_cases a2:m.hd=2
  ·have hhas:=au (qT sig hS.1 m.n) (by simp) (by simp)
   cases hn:sb sig m.n with
   | false =>
    rw [hn] at hhas
    refine ⟨tz,27,?_,fun h=>by cases h⟩
    simp [bT,a1,a2,hhas,aa,aj]
    simp [tz,Tm.enc]
   | true =>
    rw [hn] at hhas
    obtain ⟨d,hd,hdm,h0,hlt⟩:=xw hn
    obtain ⟨dok,dp⟩:=hS.2 d hdm
    have hfam:=au (kQ sig m.n d h0 hd (ar dp)) (by simp) (by simp)
    cases hf:fd sig m.n with
    | true =>
     rw [hf] at hfam
     refine ⟨tz,22,?_,fun h=>by cases h⟩
     simp [bT,a1,a2,hhas,hfam,aa,aj]
     simp [tz,Tm.enc]
    | false =>
     rw [hf] at hfam
     refine ⟨d.class_,0,?_,fun _=>⟨dok.2.1,dp⟩⟩
     simp [bT,a1,a2,hhas,hfam,h0,hlt,hd,aa,aj,-getElem?_pos,List.getElem?_cons_zero,List.getElem?_cons_succ,List.getElem?_nil,ak,aw,aq,ax,ay,ag,af,take_set,ae]
  ·refine ⟨tz,27,?_,fun h=>by cases h⟩
   simp [bT,a1,a2,hn0,aa,aj]
   simp [tz,Tm.enc]
end Go.Ev

namespace Go.Ev
def OB (sig:List Dc) (m:Tm):Prop:=∀ (ctx:List Tm) (fc:Bool),CX ctx→∀ a:Tm,a.ok→a.proper=true→∃ e:Int,az TT HH [] ef [kN sig,.sl fc (ab ctx),m.enc,a.enc] []=some (.ret (.i e),[])
def FQ (sig:List Dc) (c:Tm) (n:Nat) (y:Ex×Env×Sto):Prop :=
 (∃ c':Tm,c'.ok∧c'.proper=true∧(∀ D,PC E1 D c→n≤D.length∧PC E1 (D.drop n) c')∧y=(.exit 0,[(7,.ptr 1 0),(8,.ptr 2 0)],[.var [.sl false (ab sig),.sl false []],.var (Enc.cells c'),.var [.i 0,.i 0,.i 0,.sl true []]])) ∨
 ∃ (a:Ob) (e:Int),e≠0∧y=(.ret,[(8,.ptr 2 0),(9,.i e)],[.var [.sl false (ab sig),.sl false []],a,.var [.i 0,.i 0,.i 0,.sl true []]])
theorem KX (sig:List Dc) (ctx:List Tm) (fc:Bool) (hc:CX ctx) (P:List Tm) (hl:P.length≤maxLen) (hP:∀ x∈P,x.ok∧x.proper=true∧OB sig x):∀ (r:List Tm) (i:Nat) (c:Tm),P.drop i=r→i+r.length=P.length→c.ok→c.proper=true →
  ∃ y,LO TT HH [0] aY ([(1,.sl fc (ab ctx)),(2,.sl false (ab P)),(4,.ptr 0 0),(7,.ptr 1 0),(8,.ptr 2 0),(10,.i i)],[.var [.sl false (ab sig),.sl false []],.var (Enc.cells c),.var [.i 0,.i 0,.i 0,.sl true []]])=some y∧FQ sig c r.length y:=by
 have e3:=ml hl
 intro r
 induction r with
 | nil =>
  intro i c hdr hi hco hp
  simp only [List.length_nil,Nat.add_zero] at hi
  refine ⟨_,?_,.inl ⟨c,hco,hp,fun D hD=>⟨Nat.zero_le _,hD⟩,rfl⟩⟩
  rw [aP,aF]
  generalize LO TT HH [0] aY=F
  have hi':¬ (i:Int)<P.length:=by omega
  simp [aY,hi,hi',e3]
 | cons x r ih =>
  intro i c hdr hi hco hp
  simp only [List.length_cons] at hi
  have e1:(i:Int)<P.length:=by omega
  have e1':i<P.length:=by omega
  have hw:IntKind.i64.wrap ((i:Int)+1)=(i:Int)+1:=ai _ (by omega) (by omega)
  obtain ⟨x',hx,hxm,hxd⟩:=eQ e1'
  rw [hxd] at hdr
  simp only [List.cons.injEq] at hdr
  obtain ⟨rfl,hdr⟩:=hdr
  obtain ⟨xo,xp,xob⟩:=hP x' hxm
  by_cases h2:c.op=2
  ·obtain ⟨a,b,hab,ha,hb⟩:=cz (ar hp) h2
   have hao:a.ok:=hco.sub a (by rw [hab]; simp)
   have hap:a.proper=true:=aR hp (by rw [hab]; simp)
   have hce:c.enc=.agg [.i 2,.i c.hd,.i c.n,.sl false [[.i a.op,.i a.hd,.i a.n,.sl false (ab a.args)],[.i b.op,.i b.hd,.i b.n,.sl false (ab b.args)]]]:=by simp [Tm.enc,h2,hab,aB]
   obtain ⟨e,he⟩:=xob ctx fc hc a hao hap
   have hob:=au he (by simp) (by simp)
   simp only [kN] at hob
   by_cases h0:e=0
   ·subst h0
    have hin:=au (pE c x' hco hp xo xp true) (by simp) (by simp)
    rw [hce] at hin
    by_cases h3:(cu c x').1=0
    ·rw [h3] at hin
     obtain ⟨i1,i2,i3,i4⟩:=G3 hco hp xo xp h3
     obtain ⟨y,hy,hq⟩:=ih (i+1) (cu c x').2 hdr (by omega) i1 i2
     refine ⟨y,?_,?_⟩
     ·rw [← hy,aP,aF]
      generalize LO TT HH [0] aY=F
      simp [aB] at hin
      simp [aY,e1,e1',e3,hx,hw,h2,hab,hob,hin,aB,aa,aj,-getElem?_pos,List.getElem?_cons_zero,List.getElem?_cons_succ,List.getElem?_nil,ak,aw,aq,ax,ay,ag,af,take_set,ae]
     ·rcases hq with ⟨c',q1,q2,q3,q4⟩|⟨a',e',q1,q2⟩
      ·refine .inl ⟨c',q1,q2,fun D hD=>?_,q4⟩
       cases D with
       | nil=>exact absurd (show c.op=1 from hD) (by omega)
       | cons d D =>
        have:=q3 D (i4 E1 PB d D hD)
        simpa using this
      ·exact .inr ⟨a',e',q1,q2⟩
    ·have htz:=sE c _ h3
     rw [htz] at hin
     refine ⟨_,?_,.inr ⟨.var (Enc.cells c),_,h3,rfl⟩⟩
     rw [aP,aF]
     generalize LO TT HH [0] aY=F
     simp [aB] at hin
     simp [aY,e1,e1',e3,hx,hw,h2,h3,hab,hob,hin,aB,aa,aj,-getElem?_pos,List.getElem?_cons_zero,List.getElem?_cons_succ,List.getElem?_nil,ak,aw,aq,ax,ay,ag,af,take_set,ae]
     all_goals rfl
   ·refine ⟨_,?_,.inr ⟨.var (Enc.cells c),e,h0,rfl⟩⟩
    rw [aP,aF]
    generalize LO TT HH [0] aY=F
    simp [aY,e1,e1',e3,hx,hw,h2,h0,hab,hob,aB,aa,aj,-getElem?_pos,List.getElem?_cons_zero,List.getElem?_cons_succ,List.getElem?_nil,ak,aw,aq,ax,ay,ag,af,take_set,ae]
    all_goals rfl
  ·refine ⟨_,?_,.inr ⟨.var (Enc.cells c),23,by omega,rfl⟩⟩
   rw [aP,aF]
   generalize LO TT HH [0] aY=F
   simp [aY,e1,e1',e3,hx,hw,h2,aa,aj,-getElem?_pos,List.getElem?_cons_zero,List.getElem?_cons_succ,List.getElem?_nil,ak,aw,aq,ax,ay,ag,af,take_set,ae]
   all_goals rfl
theorem tJ (sig:List Dc) (ctx:List Tm) (fc:Bool) (hc:CX ctx) (P:List Tm) (hl:P.length≤maxLen) (hP:∀ x∈P,x.ok∧x.proper=true∧OB sig x) (c:Tm) (hco:c.ok) (hp:c.proper=true) :
  ∃ (r:Tm) (e:Int),az TT HH [] fm [kN sig,.sl fc (ab ctx),.sl false (ab P),c.enc] []=some (.ret (.tup [r.enc,.i e]),[])∧(e=0→r.ok∧r.proper=true∧∀ D,PC E1 D c→P.length≤D.length∧PC E1 (D.drop P.length) r):=by
 rw [uv]
 obtain ⟨y,hy,hq⟩:=KX sig ctx false hc P hl hP P 0 c rfl (by simp) hco hp
 rcases hq with ⟨c',q1,q2,q3,rfl⟩|⟨a,e,q1,rfl⟩
 ·refine ⟨c',0,?_,fun _=>⟨q1,q2,q3⟩⟩
  simp at hy
  simp [gH,kN,hy,aa]
 ·refine ⟨tz,e,?_,fun h=>absurd h q1⟩
  simp at hy
  simp [gH,kN,hy,aa]
  simp [tz,Tm.enc]
end Go.Ev

namespace Go.Ev
theorem R6 {t:Tm} {d:Int} (h:t.formed d=true) (h3:t.op=3):∃ a,t.args=[a]:=by
 rw [nY] at h
 simp only [Bool.and_eq_true,decide_eq_true_eq] at h
 have h5:=h.2.1
 simp [lg,h3] at h5
 match hl:t.args,h5 with
 | [a],_=>exact ⟨a,rfl⟩
 | [],h=>simp [hl] at h
 | _::_::_,h=>simp [hl] at h; omega
theorem yT (sig:List Dc) (hS:SG sig) (ctx:List Tm) (fc:Bool) (hc:CX ctx) (m:Tm) (hm:m.ok) (hp:m.proper=true) (hob:∀ x∈m.args,OB sig x) :
  ∃ (r:Tm) (e:Int),az TT HH [] gD [kN sig,.sl fc (ab ctx),m.enc] []=some (.ret (.tup [r.enc,.i e]),[])∧(e=0→r.ok∧r.proper=true):=by
 rw [tQ]
 by_cases h4:m.op=4
 ·have h4':(m.op=4)=True:=eq_true h4
  obtain ⟨cl,ce,hcl,hcp⟩:=yS sig hS ctx hc m hm hp h4 false
  have h1:=au hcl (by simp) (by simp)
  simp only [kN] at h1
  by_cases c0:ce=0
  ·subst c0
   obtain ⟨co,cp⟩:=hcp rfl
   obtain ⟨r,e,hr,hrp⟩:=tJ sig ctx false hc m.args hm.len (fun x hx=>⟨hm.sub x hx,aR hp hx,hob x hx⟩) cl co cp
   have h2:=au hr (by simp) (by simp)
   simp only [kN] at h2
   by_cases e0:e=0
   ·subst e0
    obtain ⟨ro,rp,-⟩:=hrp rfl
    by_cases r2:r.op=2
    ·refine ⟨tz,23,?_,fun h=>by cases h⟩
     simp [cQ,kN,h4',h1,h2,eq_true r2,aa,aj,-getElem?_pos,List.getElem?_cons_zero,List.getElem?_cons_succ,List.getElem?_nil,ak,aw,aq,ax,ay,ag,af,take_set,ae]
     all_goals simp [tz,Tm.enc]
    ·refine ⟨r,0,?_,fun _=>⟨ro,rp⟩⟩
     simp [cQ,kN,h4',h1,h2,r2,aa,aj,-getElem?_pos,List.getElem?_cons_zero,List.getElem?_cons_succ,List.getElem?_nil,ak,aw,aq,ax,ay,ag,af,take_set,ae]
   ·refine ⟨tz,e,?_,fun h=>absurd h e0⟩
    simp [cQ,kN,h4',h1,h2,e0,aa,aj,-getElem?_pos,List.getElem?_cons_zero,List.getElem?_cons_succ,List.getElem?_nil,ak,aw,aq,ax,ay,ag,af,take_set,ae]
    all_goals simp [tz,Tm.enc]
  ·refine ⟨tz,ce,?_,fun h=>absurd h c0⟩
   simp [cQ,kN,h4',h1,c0,aa,aj,-getElem?_pos,List.getElem?_cons_zero,List.getElem?_cons_succ,List.getElem?_nil,ak,aw,aq,ax,ay,ag,af,take_set,ae]
   all_goals simp [tz,Tm.enc]
 ·refine ⟨tz,22,?_,fun h=>by cases h⟩
  simp [cQ,kN,h4,aa,aj,-getElem?_pos,List.getElem?_cons_zero,List.getElem?_cons_succ,List.getElem?_nil,ak,aw,aq,ax,ay,ag,af,take_set,ae]
  all_goals simp [tz,Tm.enc]
theorem xz (sig:List Dc) (hS:SG sig):∀ m:Tm,m.ok→m.proper=true→OB sig m :=
 Tm.ind fun m ih hm hp ctx fc hc a ha hap=>by
  rw [th]
  by_cases a2:a.op=2
  ·obtain ⟨x,y,hxy,hx,hy⟩:=cz (ar hap) a2
   have hxo:x.ok:=ha.sub x (by rw [hxy]; simp)
   have hxp:x.proper=true:=aR hap (by rw [hxy]; simp)
   have hyo:y.ok:=ha.sub y (by rw [hxy]; simp)
   have hyp:y.proper=true:=aR hap (by rw [hxy]; simp)
   by_cases m4:m.op=4
   ·refine ⟨23,?_⟩
    simp [bf,kN,a2,m4,aa,aj,-getElem?_pos,List.getElem?_cons_zero,List.getElem?_cons_succ,List.getElem?_nil,ak,aw,aq,ax,ay,ag,af,take_set,ae]
   ·by_cases m3:m.op=3
    ·obtain ⟨b,hb⟩:=R6 (ar hp) m3
     have hl:=au (rC ctx hc x false) (by simp) (by simp)
     by_cases hlt:ctx.length<30
     ·rw [if_pos hlt] at hl
      obtain ⟨e,he⟩:=ih b (by rw [hb]; simp) (hm.sub b (by rw [hb]; simp)) (aR hp (by rw [hb]; simp)) (ctx++[x]) false (NK hc x hxo hxp hlt) y hyo hyp
      have h2:=au he (by simp) (by simp)
      simp only [kN] at h2
      refine ⟨e,?_⟩
      simp [bf,kN,a2,m3,m4,hxy,hb,hl,h2,aB,aa,aj,-getElem?_pos,List.getElem?_cons_zero,List.getElem?_cons_succ,List.getElem?_nil,ak,aw,aq,ax,ay,ag,af,take_set,ae]
     ·rw [if_neg hlt] at hl
      refine ⟨5,?_⟩
      simp [bf,kN,a2,m3,m4,hxy,hb,hl,aB,aa,aj,-getElem?_pos,List.getElem?_cons_zero,List.getElem?_cons_succ,List.getElem?_nil,ak,aw,aq,ax,ay,ag,af,take_set,ae]
    ·refine ⟨22,?_⟩
     simp [bf,kN,a2,m3,m4,aa,aj,-getElem?_pos,List.getElem?_cons_zero,List.getElem?_cons_succ,List.getElem?_nil,ak,aw,aq,ax,ay,ag,af,take_set,ae]
  ·by_cases a4:a.op=4
   ·have a4':(a.op=4)=True:=eq_true a4
    have a2':¬ a.op=2:=a2
    by_cases m3:m.op=3
    ·refine ⟨23,?_⟩
     simp [bf,kN,a2',a4',m3,aa,aj,-getElem?_pos,List.getElem?_cons_zero,List.getElem?_cons_succ,List.getElem?_nil,ak,aw,aq,ax,ay,ag,af,take_set,ae]
    ·obtain ⟨r,e,hr,hrp⟩:=yT sig hS ctx false hc m hm hp (fun x hx=>ih x hx (hm.sub x hx) (aR hp hx))
     have h1:=au hr (by simp) (by simp)
     simp only [kN] at h1
     by_cases e0:e=0
     ·subst e0
      obtain ⟨ro,rp⟩:=hrp rfl
      obtain ⟨q,hq,-⟩:=tI a ha r ro
      have h2:=au hq (by simp) (by simp)
      refine ⟨if q then 0 else 24,?_⟩
      cases q with
      | true=>simp [bf,kN,a2',a4',m3,h1,h2,aa,aj,-getElem?_pos,List.getElem?_cons_zero,List.getElem?_cons_succ,List.getElem?_nil,ak,aw,aq,ax,ay,ag,af,take_set,ae]
      | false=>simp [bf,kN,a2',a4',m3,h1,h2,aa,aj,-getElem?_pos,List.getElem?_cons_zero,List.getElem?_cons_succ,List.getElem?_nil,ak,aw,aq,ax,ay,ag,af,take_set,ae]
     ·refine ⟨e,?_⟩
      simp [bf,kN,a2',a4',m3,h1,e0,aa,aj,-getElem?_pos,List.getElem?_cons_zero,List.getElem?_cons_succ,List.getElem?_nil,ak,aw,aq,ax,ay,ag,af,take_set,ae]
   ·refine ⟨22,?_⟩
    simp [bf,kN,a2,a4,aa,aj,-getElem?_pos,List.getElem?_cons_zero,List.getElem?_cons_succ,List.getElem?_nil,ak,aw,aq,ax,ay,ag,af,take_set,ae]
end Go.Ev

namespace Go.Ev
def TA (sig:List Dc) (c:Tm):Prop:=∀ d,sig[c.n.toNat]? = some d→c.args.length=(bv 40 d.class_).length
def TAk (sig:List Dc) (a:Tm):Prop:=∀ (k:Nat) (d:Int),a.formed d=true→41 - d≤k→TA sig (Tm.core k a)
def TY (sig:List Dc) (a:Tm):Prop:=∀ (ctx:List Tm) (fc:Bool),CX ctx→∃ e:Int,az TT HH [] dZ [kN sig,.sl fc (ab ctx),a.enc] []=some (.ret (.i e),[])∧(e=0→TAk sig a)
def KI (sig:List Dc) (a:Tm):Prop:=∀ (ctx:List Tm) (fc:Bool),CX ctx→∃ e:Int,az TT HH [] fk [kN sig,.sl fc (ab ctx),a.enc] []=some (.ret (.i e),[])
theorem vJ (sig:List Dc) (a x y:Tm) (ha:a.ok) (hap:a.proper=true) (hxy:a.args=[x,y]) (hx:TY sig x) (kind:Bool) (hk:if kind then KI sig y else TY sig y) (ctx:List Tm) (fc:Bool) (hc:CX ctx) :
  ∃ e:Int,az TT HH [] gB [kN sig,.sl fc (ab ctx),a.enc,.b kind] []=some (.ret (.i e),[])∧(kind=false→e=0→TAk sig y):=by
 rw [v7]
 have hxo:x.ok:=ha.sub x (by rw [hxy]; simp)
 have hxp:x.proper=true:=aR hap (by rw [hxy]; simp)
 obtain ⟨e,he,-⟩:=hx ctx false hc
 have h1:=au he (by simp) (by simp)
 simp only [kN] at h1
 by_cases e0:e=0
 ·subst e0
  have hl:=au (rC ctx hc x false) (by simp) (by simp)
  by_cases hlt:ctx.length<30
  ·rw [if_pos hlt] at hl
   have hcx:=NK hc x hxo hxp hlt
   cases kind with
   | true =>
    simp only [if_true] at hk
    obtain ⟨e,he⟩:=hk (ctx++[x]) false hcx
    have h2:=au he (by simp) (by simp)
    simp only [kN] at h2
    refine ⟨e,?_,fun h=>by cases h⟩
    simp [eB,kN,hxy,h1,hl,h2,aB,aa,aj,-getElem?_pos,List.getElem?_cons_zero,List.getElem?_cons_succ,List.getElem?_nil,ak,aw,aq,ax,ay,ag,af,take_set,ae]
   | false =>
    simp only [Bool.false_eq_true,if_false] at hk
    obtain ⟨e,he,h3⟩:=hk (ctx++[x]) false hcx
    have h2:=au he (by simp) (by simp)
    simp only [kN] at h2
    refine ⟨e,?_,fun _=>h3⟩
    simp [eB,kN,hxy,h1,hl,h2,aB,aa,aj,-getElem?_pos,List.getElem?_cons_zero,List.getElem?_cons_succ,List.getElem?_nil,ak,aw,aq,ax,ay,ag,af,take_set,ae]
  ·rw [if_neg hlt] at hl
   refine ⟨5,?_,fun _ h=>by cases h⟩
   simp [eB,kN,hxy,h1,hl,aB,aa,aj,-getElem?_pos,List.getElem?_cons_zero,List.getElem?_cons_succ,List.getElem?_nil,ak,aw,aq,ax,ay,ag,af,take_set,ae]
 ·refine ⟨e,?_,fun _ h=>absurd h e0⟩
  simp [eB,kN,hxy,h1,e0,aB,aa,aj,-getElem?_pos,List.getElem?_cons_zero,List.getElem?_cons_succ,List.getElem?_nil,ak,aw,aq,ax,ay,ag,af,take_set,ae]
theorem R7 {sig:List Dc} {a x y:Tm} (h2:a.op=2) (hxy:a.args=[x,y]) (h:TAk sig y):TAk sig a:=fun k d hf hk=>by
 obtain ⟨x',y',hxy',hx,hy⟩:=cz hf h2
 rw [hxy] at hxy'
 simp only [List.cons.injEq,and_true] at hxy'
 obtain ⟨rfl,rfl⟩:=hxy'
 have:=dK hf
 cases k with
 | zero=>omega
 | succ k =>
  rw [mw h2 hxy]
  exact h k (d+1) hy (by omega)
theorem PZ {sig:List Dc} {a:Tm} (h2:a.op≠2) (h:TA sig a):TAk sig a:=fun k d _ _=>by rw [oZ h2]; exact h
theorem tK (sig:List Dc) (hS:SG sig):∀ a:Tm,a.ok→a.proper=true→TY sig a :=
 Tm.ind fun a ih ha hap ctx fc hc=>by
  rw [uu]
  have e5:=ml hS.1
  by_cases a2:a.op=2
  ·obtain ⟨x,y,hxy,hx,hy⟩:=cz (ar hap) a2
   have a2':(a.op=2)=True:=eq_true a2
   have hxo:x.ok:=ha.sub x (by rw [hxy]; simp)
   have hxp:x.proper=true:=aR hap (by rw [hxy]; simp)
   have hyo:y.ok:=ha.sub y (by rw [hxy]; simp)
   have hyp:y.proper=true:=aR hap (by rw [hxy]; simp)
   obtain ⟨e,he,h3⟩:=vJ sig a x y ha hap hxy (ih x (by rw [hxy]; simp) hxo hxp) false (by simpa using ih y (by rw [hxy]; simp) hyo hyp) ctx false hc
   have h1:=au he (by simp) (by simp)
   simp only [kN] at h1
   refine ⟨e,?_,fun h=>R7 a2 hxy (h3 rfl h)⟩
   simp [bM,kN,a2',h1,aa,aj,-getElem?_pos,List.getElem?_cons_zero,List.getElem?_cons_succ,List.getElem?_nil,ak,aw,aq,ax,ay,ag,af,take_set,ae]
  ·by_cases a4:a.op=4
   ·have a4':(a.op=4)=True:=eq_true a4
    by_cases b2:a.hd=2
    ·have b2':(a.hd=2)=True:=eq_true b2
     have hhas:=au (qT sig hS.1 a.n) (by simp) (by simp)
     cases hn:sb sig a.n with
     | false =>
      rw [hn] at hhas
      refine ⟨27,?_,fun h=>by cases h⟩
      simp [bM,kN,a2,a4',b2',hhas,aa,aj,-getElem?_pos,List.getElem?_cons_zero,List.getElem?_cons_succ,List.getElem?_nil,ak,aw,aq,ax,ay,ag,af,take_set,ae]
     | true =>
      rw [hn] at hhas
      obtain ⟨d,hd,hdm,h0,hlt⟩:=xw hn
      obtain ⟨dok,dp⟩:=hS.2 d hdm
      have hfam:=au (kQ sig a.n d h0 hd (ar dp)) (by simp) (by simp)
      cases hf:fd sig a.n with
      | false =>
       rw [hf] at hfam
       refine ⟨22,?_,fun h=>by cases h⟩
       simp [bM,kN,a2,a4',b2',hhas,hfam,aa,aj,-getElem?_pos,List.getElem?_cons_zero,List.getElem?_cons_succ,List.getElem?_nil,ak,aw,aq,ax,ay,ag,af,take_set,ae]
      | true =>
       rw [hf] at hfam
       obtain ⟨r,e,hr,hrp⟩:=tJ sig ctx false hc a.args ha.len (fun x hx=>⟨ha.sub x hx,aR hap hx,xz sig hS x (ha.sub x hx) (aR hap hx)⟩) d.class_ dok.2.1 dp
       have h2:=au hr (by simp) (by simp)
       simp only [kN] at h2
       by_cases e0:e=0
       ·subst e0
        obtain ⟨ro,rp,hpc⟩:=hrp rfl
        by_cases r1:r.op=1
        ·have r1':(r.op=1)=True:=eq_true r1
         refine ⟨0,?_,fun _=>PZ a2 fun d' hd'=>?_⟩
         ·simp [bM,kN,a2,a4',b2',r1',hhas,hfam,h2,h0,hlt,hd,aa,aj,-getElem?_pos,List.getElem?_cons_zero,List.getElem?_cons_succ,List.getElem?_nil,ak,aw,aq,ax,ay,ag,af,take_set,ae]
         ·rw [hd] at hd'
          simp only [Option.some.injEq] at hd'
          subst hd'
          unfold fd at hf
          rw [hd] at hf
          simp only [decide_eq_true_eq] at hf
          obtain ⟨q1,q2⟩:=hpc _ (JE 40 d.class_ 1 (ar dp) (by omega) hf)
          cases hdr:(bv 40 d.class_).drop a.args.length with
          | nil =>
           have:=congrArg List.length hdr
           simp only [List.length_drop,List.length_nil] at this
           omega
          | cons z w =>
           rw [hdr] at q2
           obtain ⟨_,_,q3,_⟩:=q2
           omega
        ·refine ⟨23,?_,fun h=>by cases h⟩
         simp [bM,kN,a2,a4',b2',r1,hhas,hfam,h2,h0,hlt,hd,aa,aj,-getElem?_pos,List.getElem?_cons_zero,List.getElem?_cons_succ,List.getElem?_nil,ak,aw,aq,ax,ay,ag,af,take_set,ae]
       ·refine ⟨e,?_,fun h=>absurd h e0⟩
        simp [bM,kN,a2,a4',b2',e0,hhas,hfam,h2,h0,hlt,hd,aa,aj,-getElem?_pos,List.getElem?_cons_zero,List.getElem?_cons_succ,List.getElem?_nil,ak,aw,aq,ax,ay,ag,af,take_set,ae]
    ·refine ⟨22,?_,fun h=>by cases h⟩
     simp [bM,kN,a2,a4',b2,aa,aj,-getElem?_pos,List.getElem?_cons_zero,List.getElem?_cons_succ,List.getElem?_nil,ak,aw,aq,ax,ay,ag,af,take_set,ae]
   ·refine ⟨22,?_,fun h=>by cases h⟩
    simp [bM,kN,a2,a4,aa,aj,-getElem?_pos,List.getElem?_cons_zero,List.getElem?_cons_succ,List.getElem?_nil,ak,aw,aq,ax,ay,ag,af,take_set,ae]
theorem An (sig:List Dc) (hS:SG sig):∀ a:Tm,a.ok→a.proper=true→KI sig a :=
 Tm.ind fun a ih ha hap ctx fc hc=>by
  rw [ur]
  by_cases a2:a.op=2
  ·obtain ⟨x,y,hxy,hx,hy⟩:=cz (ar hap) a2
   have a2':(a.op=2)=True:=eq_true a2
   have a1':¬ a.op=1:=by omega
   have hxo:x.ok:=ha.sub x (by rw [hxy]; simp)
   have hxp:x.proper=true:=aR hap (by rw [hxy]; simp)
   have hyo:y.ok:=ha.sub y (by rw [hxy]; simp)
   have hyp:y.proper=true:=aR hap (by rw [hxy]; simp)
   obtain ⟨e,he,h3⟩:=vJ sig a x y ha hap hxy (tK sig hS x hxo hxp) true (by simpa using ih y (by rw [hxy]; simp) hyo hyp) ctx false hc
   have h1:=au he (by simp) (by simp)
   simp only [kN] at h1
   refine ⟨e,?_⟩
   simp [eU,kN,a1',a2',h1,aa,aj,-getElem?_pos,List.getElem?_cons_zero,List.getElem?_cons_succ,List.getElem?_nil,ak,aw,aq,ax,ay,ag,af,take_set,ae]
  ·by_cases a1:a.op=1
   ·have a1':(a.op=1)=True:=eq_true a1
    refine ⟨0,?_⟩
    simp [eU,kN,a1',aa,aj,-getElem?_pos,List.getElem?_cons_zero,List.getElem?_cons_succ,List.getElem?_nil,ak,aw,aq,ax,ay,ag,af,take_set,ae]
   ·refine ⟨22,?_⟩
    simp [eU,kN,a1,a2,aa,aj,-getElem?_pos,List.getElem?_cons_zero,List.getElem?_cons_succ,List.getElem?_nil,ak,aw,aq,ax,ay,ag,af,take_set,ae]
theorem NL:CX []:=⟨by simp,by simp⟩
theorem yU (sig:List Dc) (hS:SG sig) (a:Tm) (ha:a.ok) (hap:a.proper=true) :
  ∃ e:Int,az TT HH [] dE [kN sig,a.enc] []=some (.ret (.i e),[])∧(e=0→(Tm.core 40 a).op≠1→TA sig (Tm.core 40 a)):=by
 rw [jp]
 have h1:=au (kB a (ar hap)) (by simp) (by simp)
 by_cases c1:(Tm.core 40 a).op=1
 ·have c1':((Tm.core 40 a).op=1)=True:=eq_true c1
  obtain ⟨e,he⟩:=An sig hS a ha hap [] true NL
  have h2:=au he (by simp) (by simp)
  simp only [kN,uf] at h2
  refine ⟨e,?_,fun _ h=>absurd c1 h⟩
  simp [ir_ref06_Kernel_Class,kN,h1,h2,c1',aa,aj,-getElem?_pos,List.getElem?_cons_zero,List.getElem?_cons_succ,List.getElem?_nil,ak,aw,aq,ax,ay,ag,af,take_set,ae]
 ·obtain ⟨e,he,h3⟩:=tK sig hS a ha hap [] true NL
  have h2:=au he (by simp) (by simp)
  simp only [kN,uf] at h2
  refine ⟨e,?_,fun h _=>h3 h 40 1 (ar hap) (by omega)⟩
  simp [ir_ref06_Kernel_Class,kN,h1,h2,c1,aa,aj,-getElem?_pos,List.getElem?_cons_zero,List.getElem?_cons_succ,List.getElem?_nil,ak,aw,aq,ax,ay,ag,af,take_set,ae]
end Go.Ev

namespace Go.Ev
theorem P0 {sig:List Dc} (h:SG sig) (i:Nat):SG (sig.take i):=⟨by have:=h.1; simp; omega,fun d hd=>h.2 d (List.mem_of_mem_take hd)⟩
def GD (sig:List Dc):Prop:=∀ (i:Nat) (d:Dc),sig[i]? = some d→(Tm.core 40 d.class_).op≠1→TA (sig.take i) (Tm.core 40 d.class_)
theorem Ao (sig:List Dc) (a b:Bool) (t:Tm):az TT HH [] dE [.agg [.sl a (ab sig),.sl b []],t.enc] []=az TT HH [] dE [kN sig,t.enc] []:=by
 rw [jp,jp]
 have hm:ir_ref06_Kernel_Class.mode=0:=rfl
 unfold aE
 simp [hm,kN]
theorem NN (sig:List Dc) (hS:SG sig):∀ (r:List Dc) (i:Nat),sig.drop i=r→i+r.length=sig.length →
  (∀ (j:Nat) (d:Dc),j<i→sig[j]? = some d→(Tm.core 40 d.class_).op≠1→TA (sig.take j) (Tm.core 40 d.class_)) →
  ∃ y,LO TT HH [0] cC ([(0,.sl false (ab sig)),(8,.sl false (ab sig)),(9,.i sig.length),(10,.i i)],[])=some y ∧
   ((y=(.exit 0,[(0,.sl false (ab sig))],[])∧GD sig)∨∃ p e:Int,e≠0∧∃ σ,y=(.ret,[(2,.i p),(3,.i e)],σ)):=by
 have e3:=ml hS.1
 intro r
 induction r with
 | nil =>
  intro i hdr hi hg
  simp only [List.length_nil,Nat.add_zero] at hi
  refine ⟨_,?_,.inl ⟨rfl,fun j d hd=>hg j d (by have:=(List.getElem?_eq_some_iff.1 hd).1; omega) hd⟩⟩
  rw [aP,aF]
  generalize LO TT HH [0] cC=F
  simp [cC,hi,e3]
 | cons x r ih =>
  intro i hdr hi hg
  simp only [List.length_cons] at hi
  have e1:(i:Int)<sig.length:=by omega
  have e1':i<sig.length:=by omega
  have e2:(i:Int)≤sig.length:=by omega
  have e2':i≤sig.length:=by omega
  have hw:IntKind.i64.wrap ((i:Int)+1)=(i:Int)+1:=ai _ (by omega) (by omega)
  obtain ⟨x',hx,hxm,hxd⟩:=eQ e1'
  rw [hxd] at hdr
  simp only [List.cons.injEq] at hdr
  obtain ⟨rfl,hdr⟩:=hdr
  obtain ⟨dok,dp⟩:=hS.2 x' hxm
  obtain ⟨e,he,hta⟩:=yU (sig.take i) (P0 hS i) x'.class_ dok.2.1 dp
  rw [← Ao _ false true] at he
  have h1:=au he (by simp) (by simp)
  by_cases e0:e=0
  ·subst e0
   obtain ⟨y,hy,hq⟩:=ih (i+1) hdr (by omega) (fun j d hj hd hc=>by
    rcases Nat.lt_or_ge j i with h|h
    ·exact hg j d h hd hc
    ·obtain rfl:j=i:=by omega
     rw [hx] at hd
     simp only [Option.some.injEq] at hd
     subst hd
     exact hta rfl hc)
   refine ⟨y,?_,hq⟩
   rw [← hy,aP,aF]
   generalize LO TT HH [0] cC=F
   simp [cC,e1,e1',e2,e2',e3,hx,hw,h1,aa,a8,aj,-getElem?_pos,List.getElem?_cons_zero,List.getElem?_cons_succ,List.getElem?_nil,ak,aw,aq,ax,ay,ag,af,take_set,ae]
  ·refine ⟨(.ret,[(2,.i i),(3,.i e)],[]),?_,.inr ⟨i,e,e0,_,rfl⟩⟩
   rw [aP,aF]
   generalize LO TT HH [0] cC=F
   simp [cC,e1,e1',e2,e2',e3,hx,hw,h1,e0,aa,a8,aj,-getElem?_pos,List.getElem?_cons_zero,List.getElem?_cons_succ,List.getElem?_nil,ak,aw,aq,ax,ay,ag,af,take_set,ae]
   all_goals rfl
theorem uR (sig:List Dc) (hS:SG sig):∃ p e:Int,az TT HH [] jt [.sl false (ab sig)] []=some (.ret (.tup [.i p,.i e]),[])∧(e=0→GD sig):=by
 rw [vU]
 have e3:=ml hS.1
 obtain ⟨y,hy,hq⟩:=NN sig hS sig 0 rfl (by simp) (fun j d h=>by omega)
 rcases hq with ⟨rfl,hg⟩|⟨p,e,e0,σ,rfl⟩
 ·refine ⟨sig.length,0,?_,fun _=>hg⟩
  simp at hy
  simp [iS,hy,e3]
 ·refine ⟨p,e,?_,fun h=>absurd h e0⟩
  simp at hy
  simp [iS,hy,e3]
theorem yV:∀ t:Tm,t.ok→∃ d:Int,az TT HH [] kU [t.enc] []=some (.ret (.i d),[]) :=
 Tm.ind fun t ih hok=>by
  rw [BA]
  have e3:=ml hok.len
  have hlo:∀ (r:List Tm) (i:Nat) (n:Int),t.args.drop i=r→i+r.length=t.args.length→∃ n':Int,LO TT HH [0] fG ([(1,.ptr 0 0),(3,.i n),(4,.i i)],[.var (Enc.cells t)])=some (.exit 0,[(3,.i n')],[.var (Enc.cells t)]):=by
   intro r
   induction r with
   | nil =>
    intro i n hdr hi
    simp only [List.length_nil,Nat.add_zero] at hi
    refine ⟨n,?_⟩
    rw [aP,aF]
    generalize LO TT HH [0] fG=F
    simp [fG,hi,e3]
   | cons x r ihr =>
    intro i n hdr hi
    simp only [List.length_cons] at hi
    have e1:(i:Int)<t.args.length:=by omega
    have e1':i<t.args.length:=by omega
    have hw:IntKind.i64.wrap ((i:Int)+1)=(i:Int)+1:=ai _ (by omega) (by omega)
    obtain ⟨x',hx,hxm,hxd⟩:=eQ e1'
    rw [hxd] at hdr
    simp only [List.cons.injEq] at hdr
    obtain ⟨rfl,hdr⟩:=hdr
    obtain ⟨d,hd⟩:=ih x' hxm (hok.sub x' hxm)
    have h1:=au hd (by simp) (by simp)
    obtain ⟨n',hn⟩:=ihr (i+1) (max n d) hdr (by omega)
    refine ⟨n',?_⟩
    rw [← hn,aP,aF]
    generalize LO TT HH [0] fG=F
    simp [fG,e1,e3,hx,hw,h1,aa,aj,-getElem?_pos,List.getElem?_cons_zero,List.getElem?_cons_succ,List.getElem?_nil,ak,aw,aq,ax,ay,ag,af,take_set,ae]
    all_goals rfl
  obtain ⟨n',hn⟩:=hlo t.args 0 0 rfl (by simp)
  refine ⟨IntKind.i64.wrap (n'+1),?_⟩
  simp at hn
  simp [qw,hn]
theorem Ap (t:Tm) (hok:t.ok):∃ d:Int,az TT HH [] pK [t.enc] []=some (.ret (.tup [.i (t.rnodes 600),.i d]),[]):=by
 rw [C0]
 obtain ⟨d,hd⟩:=yV t hok
 have h1:=au (so t hok 600 (by omega) (by omega)) (by simp) (by simp)
 have h2:=au hd (by simp) (by simp)
 refine ⟨d,?_⟩
 simp [rL,h1,h2,aa]
theorem yW (sig:List Dc) (hl:sig.length≤maxLen) (hs:∀ d∈sig,d.ok):∃ b:Bool,az TT HH [] od [.sl false (ab sig)] []=some (.ret (.b b),[])∧(b=true→fD sig=true∧GD sig):=by
 rw [Bu]
 have e3:=ml hl
 have hlo:∀ (r:List Dc) (i:Nat) (n:Int),sig.drop i=r→i+r.length=sig.length→∃ n':Int,LO TT HH [0] dF ([(0,.sl false (ab sig)),(3,.i n),(4,.i i)],[])=some (.exit 0,[(0,.sl false (ab sig)),(3,.i n')],[]):=by
  intro r
  induction r with
  | nil =>
   intro i n hdr hi
   simp only [List.length_nil,Nat.add_zero] at hi
   refine ⟨n,?_⟩
   rw [aP,aF]
   generalize LO TT HH [0] dF=F
   simp [dF,hi,e3]
  | cons x r ihr =>
   intro i n hdr hi
   simp only [List.length_cons] at hi
   have e1:(i:Int)<sig.length:=by omega
   have e1':i<sig.length:=by omega
   have hw:IntKind.i64.wrap ((i:Int)+1)=(i:Int)+1:=ai _ (by omega) (by omega)
   obtain ⟨x',hx,hxm,hxd⟩:=eQ e1'
   rw [hxd] at hdr
   simp only [List.cons.injEq] at hdr
   obtain ⟨rfl,hdr⟩:=hdr
   obtain ⟨d,hd⟩:=Ap x'.class_ (hs x' hxm).2.1
   have h1:=au hd (by simp) (by simp)
   by_cases hn:n≤3000
   ·obtain ⟨n',hn'⟩:=ihr (i+1) (IntKind.i64.wrap (n+x'.class_.rnodes 600)) hdr (by omega)
    refine ⟨n',?_⟩
    rw [← hn',aP,aF]
    generalize LO TT HH [0] dF=F
    simp [dF,e1,e3,hx,hw,h1,hn,aa,aj,-getElem?_pos,List.getElem?_cons_zero,List.getElem?_cons_succ,List.getElem?_nil,ak,aw,aq,ax,ay,ag,af,take_set,ae]
   ·refine ⟨n,?_⟩
    rw [aP,aF]
    generalize LO TT HH [0] dF=F
    simp [dF,e1,e3,hx,hw,h1,hn,aa,aj,-getElem?_pos,List.getElem?_cons_zero,List.getElem?_cons_succ,List.getElem?_nil,ak,aw,aq,ax,ay,ag,af,take_set,ae]
 obtain ⟨n',hn⟩:=hlo sig 0 0 rfl (by simp)
 simp at hn
 by_cases h3:n'≤3000
 ·have h3':¬ 3000<n':=by omega
  have h1:=au (rA sig hl hs) (by simp) (by simp)
  cases hk:fD sig with
  | false =>
   rw [hk] at h1
   refine ⟨false,?_,fun h=>by cases h⟩
   simp [jS,hn,h1,h3,h3']
  | true =>
   rw [hk] at h1
   obtain ⟨p,e,he,hg⟩:=uR sig ⟨hl,fun d hd=>⟨hs d hd,(nZ hk hd).1⟩⟩
   have h2:=au he (by simp) (by simp)
   refine ⟨decide (e=0),?_,fun h=>⟨rfl,hg (by simpa using h)⟩⟩
   simp [jS,hn,h1,h2,h3,h3']
 ·have h3':3000<n':=by omega
  refine ⟨false,?_,fun h=>by cases h⟩
  simp [jS,hn,h3,h3']
end Go.Ev

namespace Go.Ev
theorem wm (sig:List Dc) (n:Int) (d:Dc) (h0:0≤n) (hlt:n<sig.length) (hd:sig[n.toNat]? = some d) (dok:d.class_.ok) (dp:d.class_.proper=true) (dm:d.class_.mb 0=true):az TT HH [] lp [.sl false (ab sig),.i n] []=some (.ret (rB (xy d.class_)),[]):=by
 rw [xY]
 have h1:=au (o7 d.class_ dok (ar dp)) (by simp) (by simp)
 have hdl:=tu 40 d.class_
 have h3:=au (Al d.class_ dok dp dm (bv 40 d.class_).length hdl true true) (by simp) (by simp)
 have hok:=Cm (bv 40 d.class_).length [] [] d.class_ qN dok dp (by simpa using dm) (by simp)
 have e3:(bv 40 d.class_).length<9223372036854775808:=by omega
 unfold xy rB
 rw [← xd]
 unfold NH at h3
 by_cases ho:(cX (bv 40 d.class_).length [] [] d.class_).1=0
 ·rw [if_pos ho] at h3
  obtain ⟨o1,o2,o3⟩:=hok ho
  generalize cX (bv 40 d.class_).length [] [] d.class_=R at *
  have h4:=au (qS o1 R.2.2.1 o2 (by simp at o3; omega) false false) (by simp) (by simp)
  simp only [ho,if_true,dO] at h4 ⊢
  simp [kl,h1,h3,h4,h0,hlt,hd,e3,aj,aa,-getElem?_pos,List.getElem?_cons_zero,List.getElem?_cons_succ,List.getElem?_nil,ak,aw,aq,ax,ay,ag,af,take_set,ae]
 ·rw [if_neg ho] at h3
  generalize cX (bv 40 d.class_).length [] [] d.class_=R at *
  simp only [ho,if_false,dO]
  simp [kl,h1,h3,ho,h0,hlt,hd,e3,aj,aa,-getElem?_pos,List.getElem?_cons_zero,List.getElem?_cons_succ,List.getElem?_nil,ak,aw,aq,ax,ay,ag,af,take_set,ae]
def NP (R:Int×List Tm×Tm) (r:Option (Ex×Env×Sto)):Prop :=
 if R.1=0 then ∃ w,Hg w R.2.1∧r=some (.exit 0,[(4,.ptr 0 0),(6,.ptr 1 0),(8,w)],[.var [.sl true [],.sl true []],.var (Enc.cells R.2.2)])
 else ∃ a,r=some (.ret,[(4,.ptr 0 0),(5,.i R.1)],[.var [.sl true [],.sl true []],a])
theorem KY {E:Tm→Prop} (hE:Stab E) (P:List Bool) (hP:P.length≤40):∀ (D:List Bool) (C:List Tm) (c:Tm) (i:Nat) (v:PV),CM C→c.ok→c.proper=true→c.mb C.length=true→PC E D c→P.drop i=D→i+D.length=P.length→Hg v C →
  NP (gm D C c) (LO TT HH [0] aT ([(4,.ptr 0 0),(6,.ptr 1 0),(7,.sl false (ab P)),(8,v),(9,.i i)],[.var [.sl true [],.sl true []],.var (Enc.cells c)])):=by
 have e3:P.length<9223372036854775808:=by omega
 intro D
 induction D with
 | nil =>
  intro C c i v hC hc hp hm hD hdr hi hv
  obtain ⟨fl,rfl⟩:=oN hv
  simp only [List.length_nil,Nat.add_zero] at hi
  unfold NP
  simp only [gm,if_true]
  refine ⟨_,hv,?_⟩
  rw [aP,aF]
  generalize LO TT HH [0] aT=F
  simp [aT,hi,e3]
 | cons d r ih =>
  intro C c i v hC hc hp hm hD hdr hi hv
  obtain ⟨fl,rfl⟩:=oN hv
  simp only [List.length_cons] at hi
  have e1:(i:Int)<P.length:=by omega
  have e1':i<P.length:=by omega
  have hw:IntKind.i64.wrap ((i:Int)+1)=(i:Int)+1:=ai _ (by omega) (by omega)
  obtain ⟨x,hx,hxm,hxd⟩:=eQ e1'
  rw [hxd] at hdr
  simp only [List.cons.injEq] at hdr
  obtain ⟨rfl,hdr⟩:=hdr
  obtain ⟨a,b,h2,hab,hdf,hr⟩:=hD
  have hD':PC E (x::r) c:=⟨a,b,h2,hab,hdf,hr⟩
  obtain ⟨hda,hbo⟩:=uE hab
  have hao:a.ok:=hc.sub a (by rw [hab]; simp)
  have hap:a.proper=true:=aR hp (by rw [hab]; simp)
  have hce:c.enc=.agg [.i 2,.i c.hd,.i c.n,.sl false [[.i a.op,.i a.hd,.i a.n,.sl false (ab a.args)],[.i b.op,.i b.hd,.i b.n,.sl false (ab b.args)]]]:=by simp [Tm.enc,h2,hab,aB]
  cases x with
  | false =>
   obtain ⟨-,ho,b1,b2',b3,b4,b5,b6⟩:=IJ hE hc hp hD'
   rw [hbo] at ho b1 b2' b3 b4 b5 b6
   have hsh:=au (yt b b1 b2' ho) (by simp) (by simp)
   have hth:=ih C (b.moved (-1) 0) (i+1) (.sl fl (ab (C.map mu))) hC b3 b4 (b5 _ hm) b6 hdr (by omega) hv
   rw [show gm (false::r) C c=gm r C (c.bod.moved (-1) 0) from rfl,hbo]
   have hLO:LO TT HH [0] aT ([(4,.ptr 0 0),(6,.ptr 1 0),(7,.sl false (ab P)),(8,.sl fl (ab (C.map mu))),(9,.i i)],[.var [.sl true [],.sl true []],.var (Enc.cells c)]) =
     LO TT HH [0] aT ([(4,.ptr 0 0),(6,.ptr 1 0),(7,.sl false (ab P)),(8,.sl fl (ab (C.map mu))),(9,.i ((i+1:Nat):Int))],[.var [.sl true [],.sl true []],.var (Enc.cells (b.moved (-1) 0))]):=by
    rw [aP,aF]
    generalize LO TT HH [0] aT=F
    simp [aT,e1,e3,hx,hw,hab,hsh,aB,aa,aj]
   rw [hLO]
   exact hth
  | true =>
   have hmm:=hm
   rw [nK,Bool.and_eq_true] at hmm
   have ham:=mbL_mem.1 hmm.2 a (by rw [hab]; simp)
   have hfr:=au (sH hC a hao hap fl true) (by simp) (by simp)
   simp only [sa] at hfr
   by_cases h1:(aK C.length a).1=0
   ·rw [if_pos h1,h1] at hfr
    obtain ⟨f1,f2,f3,f4,f5,f6,f7⟩:=sA hC hao hap ham h1
    have hin:=Hp c (aK C.length a).2 hc hp f2 f3 true
    rw [hce] at hin
    by_cases h3:(cu c (aK C.length a).2).1=0
    ·have hst:cJ C.length c=(0,(aK C.length a).2,(cu c (aK C.length a).2).2):=by simp [cJ,hda,h1,h3]
     have hs1:(cJ C.length c).1=0:=by rw [hst]
     obtain ⟨-,-,g1,g2,g3,g4,g5,g6,g7,g8⟩:=sB hC hc hp hm h2 hs1
     rw [hst] at g2 g3 g4 g5 g6 g7 g8
     have hth:=ih (C++[c.dom]) (cu c (aK C.length a).2).2 (i+1) (.sl false (ab ((C++[c.dom]).map mu))) g1 g5 g6 (by simpa using g7) (g8 E hE true r hD') hdr (by omega) (.inl rfl)
     rw [show gm (true::r) C c=gm r (C++[c.dom]) (cu c (aK C.length a).2).2 by rw [gm,hst]; simp]
     have hLO:LO TT HH [0] aT ([(4,.ptr 0 0),(6,.ptr 1 0),(7,.sl false (ab P)),(8,.sl fl (ab (C.map mu))),(9,.i i)],[.var [.sl true [],.sl true []],.var (Enc.cells c)]) =
       LO TT HH [0] aT ([(4,.ptr 0 0),(6,.ptr 1 0),(7,.sl false (ab P)),(8,.sl false (ab ((C++[c.dom]).map mu))),(9,.i ((i+1:Nat):Int))],[.var [.sl true [],.sl true []],.var (Enc.cells (cu c (aK C.length a).2).2)]):=by
      rw [aP,aF]
      generalize LO TT HH [0] aT=F
      rw [h3] at hin
      simp [aB] at hin
      rw [hda]
      simp [aT,e1,e3,hx,hw,h2,hab,hfr,hin,aB,aa,aj]
     rw [hLO]
     exact hth
    ·have htz:=sE c _ h3
     have hst1:(cJ C.length c).1=(cu c (aK C.length a).2).1:=by simp [cJ,hda,h1]
     rw [show gm (true::r) C c=((cu c (aK C.length a).2).1,[],tz) by rw [gm,hst1,if_pos h3]]
     unfold NP
     simp only [h3,if_false]
     rw [htz] at hin
     simp [aB] at hin
     rw [aP,aF]
     generalize LO TT HH [0] aT=F
     simp [aT,e1,e3,hx,hw,h2,h3,hab,hfr,hin,aB,aa,aj]
   ·have hst1:(cJ C.length c).1=(aK C.length a).1:=by simp [cJ,hda,h1]
    rw [if_neg h1] at hfr
    rw [show gm (true::r) C c=((aK C.length a).1,[],tz) by rw [gm,hst1,if_pos h1]]
    unfold NP
    simp only [h1,if_false]
    rw [aP,aF]
    generalize LO TT HH [0] aT=F
    simp [aT,e1,e3,hx,hw,h2,h1,hab,hfr,aB,aa,aj]
theorem NQ {sig:List Dc} {n:Int} {d:Dc} (hk:fD sig=true) (hd:sig[n.toNat]? = some d) (hf:fd sig n=false) :
  (Tm.core 40 d.class_).op≠1∧∃ d',(sig.take n.toNat)[(Tm.core 40 d.class_).n.toNat]? = some d':=by
 unfold fD at hk
 simp only [Bool.and_eq_true] at hk
 have h1:=JP sig [] n.toNat d hk.2 hd
 simp only [List.nil_append] at h1
 unfold okD at h1
 simp only [Bool.and_eq_true] at h1
 have h2:=h1.2
 unfold fd at hf
 rw [hd] at hf
 simp only [decide_eq_false_iff_not] at hf
 unfold tgt at h2
 simp only [hf,decide_false,Bool.false_or,Bool.and_eq_true,decide_eq_true_eq] at h2
 obtain ⟨c4,c2,cf⟩:=h2
 refine ⟨by rw [c4]; decide,?_⟩
 unfold fd at cf
 cases hg:(sig.take n.toNat)[(Tm.core 40 d.class_).n.toNat]? with
 | none=>rw [hg] at cf; simp at cf
 | some d'=>exact ⟨d',rfl⟩
theorem wn (sig:List Dc) (hl:sig.length≤maxLen) (hs:∀ d∈sig,d.ok) (n:Int) (hk:fD sig=true) (hn:sb sig n=true) (hf:fd sig n=false) (hG:GD sig):az TT HH [] lq [.sl false (ab sig),.i n] []=some (.ret (rB (vq sig n)),[]):=by
 rw [xZ]
 obtain ⟨d,hd,hm,h0,hlt,dok,dp,dm⟩:=sG hs hk hn
 have hgd:jY sig n=d.class_:=by unfold jY; rw [List.getD_eq_getElem?_getD,hd]; rfl
 obtain ⟨t1,t2,d',td,tm⟩:=I3 hk hd hf
 obtain ⟨u1,d'',u2⟩:=NQ hk hd hf
 have hta:=hG n.toNat d hd u1 d'' u2
 have hdd:d''=d':=by
  rw [List.getElem?_take] at u2
  split at u2
  ·rw [td] at u2; simp at u2; exact u2.symm
  ·cases u2
 subst hdd
 have hpc:=JE 40 d.class_ 1 (ar dp) (by omega) t1
 have hip:=au (o7 d.class_ dok (ar dp)) (by simp) (by simp)
 have hdl:=tu 40 d.class_
 have hst:=Ft (Tm.core 40 d.class_).n (Tm.core 40 d.class_).args.length
 have hlo:=KY hst (bv 40 d.class_) hdl (bv 40 d.class_) [] d.class_ 0 (.sl true []) qN dok dp (by simpa using dm) hpc (by simp) (by simp) (.inr ⟨rfl,rfl⟩)
 have hok:=Fu hst (bv 40 d.class_) [] d.class_ qN dok dp (by simpa using dm) hpc
 unfold vq rB
 rw [hgd]
 unfold NP at hlo
 by_cases he:(gm (bv 40 d.class_) [] d.class_).1=0
 ·rw [if_pos he] at hlo
  obtain ⟨w,hw,hlo⟩:=hlo
  obtain ⟨o1,o2,o3,o4,o5⟩:=hok he
  generalize gm (bv 40 d.class_) [] d.class_=R at *
  obtain ⟨fl,rfl⟩:=oN hw
  obtain ⟨c1,c2,c3,c4⟩:=o5
  have hgn:jY sig R.2.2.n=d''.class_:=by unfold jY; rw [c3,List.getD_eq_getElem?_getD,td]; rfl
  have hargs:∀ x∈R.2.2.args,x.ok∧x.proper=true∧x.mb R.2.1.length=true:=fun x hx=>⟨o2.sub x hx,aR o3 hx,by rw [nK,Bool.and_eq_true] at o4; exact mbL_mem.1 o4.2 x hx⟩
  have hal:=eG R.2.2.args
  have hne:=en R.2.2
  have hnp:=aI o3
  have hcp:=au (qS o1 R.2.2.args hargs (by omega) false false) (by simp) (by simp)
  have ha:R.2.2.args.length=(Tm.doms 40 d''.class_).length:=by rw [c4,hta,xd]
  rw [hgn]
  simp at hlo
  simp only [he,ha,ne_eq,not_true,if_false,if_true,dO] at hcp ⊢
  simp [km,h0,hlt,hd,hip,hlo,hcp,aj,aa,-getElem?_pos,List.getElem?_cons_zero,List.getElem?_cons_succ,List.getElem?_nil,ak,aw,aq,ax,ay,ag,af,take_set,ae]
 ·rw [if_neg he] at hlo
  obtain ⟨a,hlo⟩:=hlo
  generalize gm (bv 40 d.class_) [] d.class_=R at *
  simp at hlo
  simp only [he,ne_eq,not_false_iff,if_true,if_false,dO]
  simp [km,h0,hlt,hd,hip,hlo,aj,aa,-getElem?_pos,List.getElem?_cons_zero,List.getElem?_cons_succ,List.getElem?_nil,ak,aw,aq,ax,ay,ag,af,take_set,ae]
end Go.Ev

namespace Go.Ev
theorem pA (a:Tm) (h:a.ok):az TT HH [] dQ [a.enc,a.enc] []=some (.ret (.b true),[]):=by
 obtain ⟨r,h1,h2⟩:=tI a h a h
 rw [h2 rfl] at h1
 exact h1
theorem wo (L:List Tm) (hl:L.length≤4000) (hL:∀ x∈L,x.ok) (f g:Bool):az TT HH [] lv [.sl f (ab L),.sl g (ab L)] []=some (.ret (.b true),[]):=by
 rw [x9]
 have e3:L.length<9223372036854775808:=by omega
 have hlo:=be (T:=TT) (H:=HH) (b:=[0]) (A:=iT) L
  (fun i (_:Unit)=>([(0,.sl false (ab L)),(1,.sl false (ab L)),(5,.i i)],[]))
  (fun r i _=>(.exit 0,[],[]))
  (fun i _=>True)
  (fun _ _=>by
   rw [aF]
   simp [iT,e3])
  (fun i x r _ hx hm hd hi _=>by
   have e1:(i:Int)<L.length:=by omega
   have hw:IntKind.i64.wrap ((i:Int)+1)=(i:Int)+1:=ai _ (by omega) (by omega)
   have h1:=au (pA x (hL x hm)) (by simp) (by simp)
   refine .inr ⟨(),?_,trivial,rfl⟩
   rw [aF]
   simp [iT,e1,e3,hx,hw,h1,aa]) 0 () (by omega) trivial
 simp at hlo
 simp [nS,e3,hlo]
theorem Aq (C:List Tm) (hl:C.length≤4000) (hC:∀ x∈C,x.ok) (f g:Bool):az TT HH [] pM [.sl f (ab (C.map mu)),.sl g (ab (C.map mu))] []=some (.ret (.b true),[]):=by
 rw [C2]
 have e3:C.length<9223372036854775808:=by omega
 have hz:=au (pA tz T4) (by simp) (by simp)
 simp [tz,Tm.enc] at hz
 have hlo:=be (T:=TT) (H:=HH) (b:=[0]) (A:=lA) C
  (fun i (_:Unit)=>([(1,.sl false (ab (C.map mu))),(12,.sl false (ab (C.map mu))),(13,.i C.length),(14,.i i)],[]))
  (fun r i _=>(.exit 0,[],[]))
  (fun i _=>True)
  (fun _ _=>by
   rw [aF]
   simp [lA])
  (fun i x r _ hx hm hd hi _=>by
   have e1:(i:Int)<C.length:=by omega
   have hw:IntKind.i64.wrap ((i:Int)+1)=(i:Int)+1:=ai _ (by omega) (by omega)
   have h1:=au (pA x (hC x hm)) (by simp) (by simp)
   refine .inr ⟨(),?_,trivial,rfl⟩
   rw [aF]
   simp [lA,e1,e3,hx,hw,h1,hz,tz,aa]) 0 () (by omega) trivial
 simp at hlo
 simp [rM,e3,hlo]
theorem tL (C A:List Tm) (hl:C.length≤4000) (hC:∀ x∈C,x.ok) (ha:A.length≤4000) (hA:∀ x∈A,x.ok):az TT HH [] mK [dO C A,dO C A] []=some (.ret (.b true),[]):=by
 rw [CY]
 have h1:=au (Aq C hl hC false false) (by simp) (by simp)
 have h2:=au (wo A ha hA false false) (by simp) (by simp)
 unfold dO
 simp [rK,h1,h2]
end Go.Ev
