/- The interpreter without bounds on the rounds and the depth: what it comes to at some bound; its equations. -/
import Derived.Test.YtfbichemhllhbaaGreatEvA
import Derived.Test.YtfbichemhllhbaaGreatEvB
import Derived.LoopNIn
import Derived.OrdersIn
set_option linter.unnecessarySimpa false
set_option linter.unusedVariables false
set_option linter.unusedSimpArgs false
set_option linter.unusedSectionVars false
namespace Go.Ev
noncomputable section
def Le {α β:Type} (f g:α→Option β):Prop:=∀ x r,f x=some r→g x=some r
def LeS (f g:bY):Prop:=∀ l a b c r,f l a b c=some r→g l a b c=some r
def LeI (i j:It):Prop:=∀ s t,Le s t→Le (i s) (j t)
theorem j8 {s t:Env×Sto→Option (Ex×Env×Sto)} (h:Le s t):∀ n m,n≤m→Le (dB s n) (dB t m):=by
 intro n
 induction n with
 | zero=>intro m _ x r hr; simp [dB] at hr
 | succ n ih =>
  intro m hm x r hr
  obtain ⟨m,rfl⟩:∃ l,m=l+1:=⟨m - 1,by omega⟩
  simp only [dB] at hr ⊢
  cases hs:s x with
  | none=>rw [hs] at hr; simp at hr
  | some y =>
   rw [hs] at hr
   rw [h x y hs]
   obtain ⟨e,y⟩:=y
   cases e with
   | norm=>exact ih m (by omega) _ _ hr
   | exit id=>exact hr
   | ret=>exact hr
   | pan v=>exact hr
theorem A0 {f g:bY} (h:LeS f g) (bar:List Nat) (o:IOper) (env:Env) (σ:Sto) r (hr:cL f bar o env σ=some r):cL g bar o env σ=some r:=by
 unfold cL at hr ⊢
 split at hr
 ·split at hr
  ·exact hr
  ·split at hr
   ·rename_i hc; rw [h _ _ _ _ _ hc]; exact hr
   ·rename_i hc; rw [h _ _ _ _ _ hc]; exact hr
   ·cases hr
  ·exact hr
  ·cases hr
 ·exact hr
 ·cases hr
theorem A1 {f g:bY} (h:LeS f g) (bar:List Nat):∀ (l:List IOper) (env:Env) (σ:Sto) r,bD f bar l env σ=some r→bD g bar l env σ=some r:=by
 intro l
 induction l with
 | nil=>intro env σ r hr; exact hr
 | cons o l ih =>
  intro env σ r hr
  simp only [bD] at hr ⊢
  cases ha:cL f bar o env σ with
  | none=>rw [ha] at hr; cases hr
  | some y =>
   rw [ha] at hr
   rw [A0 h bar o env σ y ha]
   obtain ⟨e,y1,y2⟩:=y
   cases e with
   | norm=>exact ih _ _ _ hr
   | exit id=>exact hr
   | ret=>exact hr
   | pan v=>exact hr
theorem ql {f g:bY} {i j:It} (h:LeS f g) (hi:LeI i j):∀ (c:IC) (bar:List Nat) (env:Env) (σ:Sto) r,evC f i bar c env σ=some r→evC g j bar c env σ=some r:=by
 intro c
 induction c with
 | skip=>intro bar env σ r hr; exact hr
 | stuck=>intro bar env σ r hr; cases hr
 | seq a b iha ihb =>
  intro bar env σ r hr
  simp only [evC] at hr ⊢
  cases ha:evC f i bar a env σ with
  | none=>rw [ha] at hr; cases hr
  | some y =>
   rw [ha] at hr
   rw [iha _ _ _ _ ha]
   obtain ⟨e,y1,y2⟩:=y
   cases e with
   | norm=>exact ihb _ _ _ _ hr
   | exit id=>exact hr
   | ret=>exact hr
   | pan v=>exact hr
 | reg d ops keep =>
  intro bar env σ r hr
  simp only [evC] at hr ⊢
  cases ha:bD f bar ops env σ with
  | none=>rw [ha] at hr; simp at hr
  | some y=>rw [ha] at hr; rw [A1 h bar _ _ _ _ ha]; exact hr
 | psa c l ih =>
  intro bar env σ r hr
  simp only [evC] at hr ⊢
  cases hc:evC f i bar c env σ with
  | none=>rw [hc] at hr; cases hr
  | some y=>rw [hc] at hr; rw [ih _ _ _ _ hc]; exact hr
 | ps l c ih =>
  intro bar env σ r hr
  simp only [evC] at hr ⊢
  cases hp:psE bar env σ l with
  | none=>rw [hp] at hr; cases hr
  | some y=>rw [hp] at hr; exact ih _ _ _ _ hr
 | cond c a b iha ihb =>
  intro bar env σ r hr
  simp only [evC] at hr ⊢
  split at hr
  ·exact iha _ _ _ _ hr
  ·exact ihb _ _ _ _ hr
  ·cases hr
 | block id a ih =>
  intro bar env σ r hr
  simp only [evC] at hr ⊢
  cases ha:evC f i bar a env σ with
  | none=>rw [ha] at hr; cases hr
  | some y=>rw [ha] at hr; rw [ih _ _ _ _ ha]; exact hr
 | loop a ih =>
  intro bar env σ r hr
  simp only [evC] at hr ⊢
  exact hi _ _ (fun x r hx=>ih _ _ _ _ hx) _ _ hr
 | cut a keep ih =>
  intro bar env σ r hr
  simp only [evC] at hr ⊢
  cases ha:evC f i (σ.length::bar) a env σ with
  | none=>rw [ha] at hr; cases hr
  | some y=>rw [ha] at hr; rw [ih _ _ _ _ ha]; exact hr
 | rfunc x ps keep asg bd _ _ =>
  intro bar env σ r hr
  simp only [evC] at hr ⊢
  split at hr
  ·rename_i g' cap hx
   split at hr
   ·rename_i hg
    rw [if_pos hg]
    cases hc:f bar g' (.yld σ.length::cap) (σ++[.loop (restrict keep env) ps asg bd 0 none]) with
    | none=>rw [hc] at hr; cases hr
    | some y=>rw [hc] at hr; rw [h _ _ _ _ _ hc]; exact hr
   ·cases hr
  ·cases hr
 | dfr=>intro bar env σ r hr; cases hr
 | exit id _=>intro bar env σ r hr; exact hr
 | ret _=>intro bar env σ r hr; exact hr
def LeC (f g:sJ):Prop:=∀ l c e s r,f l c e s=some r→g l c e s=some r
theorem A2 {f g:sJ} (h:LeC f g):∀ (c:IC) (bar:List Nat) (u:Option PV) (env:Env) (σ:Sto) r,evR f bar c u env σ=some r→evR g bar c u env σ=some r:=by
 intro c
 have dflt:∀ (c:IC) (bar:List Nat) (u:Option PV) (env:Env) (σ:Sto) r,ws f bar c u env σ=some r→ws g bar c u env σ=some r:=by
  intro c bar u env σ r hr
  unfold ws at hr ⊢
  cases ha:f bar c env σ with
  | none=>rw [ha] at hr; cases hr
  | some y=>rw [ha] at hr; rw [h _ _ _ _ _ ha]; exact hr
 induction c with
 | seq a b iha ihb =>
  intro bar u env σ r hr
  simp only [evR] at hr ⊢
  cases ha:evR f bar a u env σ with
  | none=>rw [ha] at hr; cases hr
  | some y =>
   rw [ha] at hr
   rw [iha _ _ _ _ _ ha]
   obtain ⟨e,y1,y2,y3⟩:=y
   cases e with
   | norm=>exact ihb _ _ _ _ _ hr
   | exit id=>exact hr
   | ret=>exact hr
   | pan v=>exact hr
 | cond c a b iha ihb =>
  intro bar u env σ r hr
  simp only [evR] at hr ⊢
  split at hr
  ·exact iha _ _ _ _ _ hr
  ·exact ihb _ _ _ _ _ hr
  ·cases hr
 | reg d ops keep =>
  intro bar u env σ r hr
  cases d with
  | some ix=>exact dflt _ _ _ _ _ _ hr
  | none =>
   simp only [evR] at hr ⊢
   split at hr
   ·rename_i hh; rw [if_pos hh]; exact hr
   ·rename_i hh; rw [if_neg hh]; exact dflt _ _ _ _ _ _ hr
 | _=>exact fun bar u env σ r hr=>dflt _ _ _ _ _ _ hr
theorem A3 {T:FuncId→Option IF} {f g:sJ} (h:LeC f g) {bar:List Nat} {k:FuncId} {args:List PV} {u:Option PV} {σ:Sto} {r} (hr:pB T f bar k args u σ=some r):pB T g bar k args u σ=some r:=by
 unfold pB at hr ⊢
 cases hT:T k with
 | none=>rw [hT] at hr; cases hr
 | some fn =>
  rw [hT] at hr
  simp only at hr ⊢
  split at hr
  ·rename_i hc
   rw [if_pos hc]
   cases ha:evR f (σ.length::bar) fn.body u (ep 0 args) σ with
   | none=>rw [ha] at hr; cases hr
   | some y=>rw [ha] at hr; rw [A2 h _ _ _ _ _ _ ha]; exact hr
  ·cases hr
theorem wC {T:FuncId→Option IF} {f g:sJ} (h:LeC f g):∀ (c:IC) (bar:List Nat) (env:Env) (σ:Sto) r,evD T f bar c env σ=some r→evD T g bar c env σ=some r:=by
 intro c
 have dflt:∀ (c:IC) (bar:List Nat) (env:Env) (σ:Sto) (r:Option PV×Env×Sto),AL f bar c env σ=some r→AL g bar c env σ=some r:=by
  intro c bar env σ r hr
  unfold AL at hr ⊢
  cases ha:f bar c env σ with
  | none=>rw [ha] at hr; cases hr
  | some y=>rw [ha] at hr; rw [h _ _ _ _ _ ha]; exact hr
 induction c with
 | seq a b iha ihb =>
  intro bar env σ r hr
  simp only [evD] at hr ⊢
  cases ha:f bar a env σ with
  | none=>rw [ha] at hr; cases hr
  | some y =>
   rw [ha] at hr
   rw [h _ _ _ _ _ ha]
   obtain ⟨e,y1,y2⟩:=y
   cases e with
   | norm=>exact ihb _ _ _ _ hr
   | exit id=>exact hr
   | ret=>exact hr
   | pan v=>exact hr
 | dfr pre keep k args rest ih =>
  intro bar env σ r hr
  simp only [evD] at hr ⊢
  split at hr
  ·split at hr
   ·split at hr
    ·rename_i h1
     rw [ih _ _ _ _ h1]
     simp only
     split at hr
     ·rename_i h2; rw [A3 h h2]; exact hr
     ·cases hr
    ·cases hr
   ·cases hr
  ·cases hr
 | _=>exact fun bar env σ r hr=>dflt _ _ _ _ _ hr
theorem F9 {f g:bY} {i j:It} (h:LeS f g) (hi:LeI i j):LeS (nM f i) (nM g j):=by
 intro bars l args σ r hr
 unfold nM at hr ⊢
 split at hr
 ·split at hr
  ·rename_i hl
   rw [if_pos hl]
   split at hr
   ·rename_i h1
    rw [ql h hi _ _ _ _ _ h1]
    simp only
    split at hr
    ·split at hr
     ·rename_i h2
      rw [ql h hi _ _ _ _ _ h2]
      exact hr
     ·cases hr
    ·cases hr
   ·cases hr
  ·cases hr
 ·cases hr
theorem xK {T:FuncId→Option IF} {H:gk} {f g:bY} {i j:It} (h:LeS f g) (hi:LeI i j):LeS (body T H f i) (body T H g j):=by
 intro l a b c r hr
 unfold body at hr ⊢
 by_cases hy:YB≤a
 ·rw [if_pos hy] at hr ⊢
  exact F9 h hi _ _ _ _ _ hr
 rw [if_neg hy] at hr ⊢
 cases hH:H a with
 | some hk=>rw [hH] at hr; exact hr
 | none =>
  rw [hH] at hr
  simp only at hr ⊢
  cases hT:T a with
  | none=>rw [hT] at hr; cases hr
  | some fn =>
   rw [hT] at hr
   simp only at hr ⊢
   by_cases hl:b.length=fn.np
   ·rw [if_pos hl] at hr ⊢
    by_cases hm:fn.mode=2
    ·rw [if_pos hm] at hr ⊢
     cases ha:evD T (evC f i) (c.length::l) fn.body (ep 0 b) c with
     | none=>rw [ha] at hr; cases hr
     | some y=>rw [ha] at hr; rw [wC (fun l c e s r hr=>ql h hi c l e s r hr) _ _ _ _ _ ha]; exact hr
    rw [if_neg hm] at hr ⊢
    by_cases hm3:fn.mode=3
    ·rw [if_pos hm3] at hr; cases hr
    rw [if_neg hm3] at hr ⊢
    cases ha:evC f i (c.length::l) fn.body (gg fn.mode b) c with
    | none=>rw [ha] at hr; cases hr
    | some y=>rw [ha] at hr; rw [ql h hi _ _ _ _ _ ha]; exact hr
   ·rw [if_neg hl] at hr; cases hr
open Classical in
def fI:It:=fun s x=>if h:∃ r n,dB s n x=some r then some h.choose else none
theorem sh {s:Env×Sto→Option (Ex×Env×Sto)} {x r n} (h:dB s n x=some r):fI s x=some r:=by
 have hex:∃ r n,dB s n x=some r:=⟨r,n,h⟩
 unfold fI
 rw [dif_pos hex]
 obtain ⟨m,hm⟩:=hex.choose_spec
 have h1:=j8 (s:=s) (t:=s) (fun _ _ h=>h) m (max n m) (by omega) _ _ hm
 have h2:=j8 (s:=s) (t:=s) (fun _ _ h=>h) n (max n m) (by omega) _ _ h
 rw [h1] at h2
 exact h2
theorem sP {s:Env×Sto→Option (Ex×Env×Sto)} {x r} (h:fI s x=some r):∃ n,dB s n x=some r:=by
 unfold fI at h
 split at h
 ·rename_i hex
  obtain ⟨m,hm⟩:=hex.choose_spec
  cases h
  exact ⟨m,hm⟩
 ·cases h
theorem LB (s:Env×Sto→Option (Ex×Env×Sto)) (x:Env×Sto):fI s x=match s x with
  | some (.norm,y)=>fI s y
  | r=>r:=by
 cases hs:s x with
 | none =>
  simp only []
  cases h:fI s x with
  | none=>rfl
  | some r =>
   obtain ⟨n,hn⟩:=sP h
   cases n with
   | zero=>cases hn
   | succ n=>simp [dB,hs] at hn
 | some y =>
  obtain ⟨e,y⟩:=y
  cases e with
  | norm =>
   simp only []
   cases h:fI s y with
   | none =>
    cases h':fI s x with
    | none=>rfl
    | some r =>
     obtain ⟨n,hn⟩:=sP h'
     cases n with
     | zero=>cases hn
     | succ n =>
      simp only [dB,hs] at hn
      rw [sh hn] at h; cases h
   | some r =>
    obtain ⟨n,hn⟩:=sP h
    exact sh (n:=n+1) (by simp only [dB,hs]; exact hn)
  | exit id=>exact sh (n:=1) (by simp only [dB,hs])
  | ret=>exact sh (n:=1) (by simp only [dB,hs])
  | pan v=>exact sh (n:=1) (by simp only [dB,hs])
theorem Ga (n:Nat):LeI (fun s x=>dB s n x) fI:=by
 intro s t hst x r hr
 exact sh (j8 hst n n (Nat.le_refl _) _ _ hr)
structure Tends (fs:Nat→bY) (f:bY):Prop where
 mono:∀ n m,n≤m→LeS (fs n) (fs m)
 hit:∀ l a b c r,f l a b c=some r→∃ n,fs n l a b c=some r
theorem J4 {fs:Nat→bY} {f:bY} (h:Tends fs f) (bar:List Nat) (o:IOper) (env:Env) (σ:Sto) r (hr:cL f bar o env σ=some r):∃ n,cL (fs n) bar o env σ=some r:=by
 unfold cL at hr ⊢
 split at hr
 ·split at hr
  ·exact ⟨0,hr⟩
  ·split at hr
   ·rename_i hc
    obtain ⟨n,hn⟩:=h.hit _ _ _ _ _ hc
    exact ⟨n,by rw [hn]; exact hr⟩
   ·rename_i hc
    obtain ⟨n,hn⟩:=h.hit _ _ _ _ _ hc
    exact ⟨n,by rw [hn]; exact hr⟩
   ·cases hr
  ·exact ⟨0,hr⟩
  ·cases hr
 ·exact ⟨0,hr⟩
 ·cases hr
theorem J5 {fs:Nat→bY} {f:bY} (h:Tends fs f) (bar:List Nat):∀ (l:List IOper) (env:Env) (σ:Sto) r,bD f bar l env σ=some r→∃ n,bD (fs n) bar l env σ=some r:=by
 intro l
 induction l with
 | nil=>intro env σ r hr; exact ⟨0,hr⟩
 | cons o l ih =>
  intro env σ r hr
  simp only [bD] at hr ⊢
  cases ha:cL f bar o env σ with
  | none=>rw [ha] at hr; cases hr
  | some y =>
   rw [ha] at hr
   obtain ⟨n,hn⟩:=J4 h bar o env σ y ha
   obtain ⟨e,y1,y2⟩:=y
   cases e with
   | norm =>
    obtain ⟨m,hm⟩:=ih _ _ _ hr
    refine ⟨max n m,?_⟩
    rw [A0 (h.mono n (max n m) (by omega)) bar _ _ _ _ hn]
    exact A1 (h.mono m (max n m) (by omega)) bar _ _ _ _ hm
   | exit id=>exact ⟨n,by rw [hn]; exact hr⟩
   | ret=>exact ⟨n,by rw [hn]; exact hr⟩
   | pan v=>exact ⟨n,by rw [hn]; exact hr⟩
theorem LC {ss:Nat→Env×Sto→Option (Ex×Env×Sto)} {s:Env×Sto→Option (Ex×Env×Sto)} (hm:∀ n m,n≤m→Le (ss n) (ss m)) (hh:∀ x r,s x=some r→∃ n,ss n x=some r) :
  ∀ n x r,dB s n x=some r→∃ m,dB (ss m) m x=some r:=by
 intro n
 induction n with
 | zero=>intro x r hr; cases hr
 | succ n ih =>
  intro x r hr
  simp only [dB] at hr
  cases hs:s x with
  | none=>rw [hs] at hr; cases hr
  | some y =>
   rw [hs] at hr
   obtain ⟨p,hp⟩:=hh _ _ hs
   obtain ⟨e,y⟩:=y
   cases e with
   | norm =>
    obtain ⟨m,hm'⟩:=ih _ _ hr
    refine ⟨max p m+1,?_⟩
    simp only [dB]
    rw [hm p (max p m+1) (by omega) _ _ hp]
    exact j8 (hm m (max p m+1) (by omega)) m (max p m) (by omega) _ _ hm'
   | exit id=>exact ⟨p+1,by simp only [dB]; rw [hm p (p+1) (by omega) _ _ hp]; exact hr⟩
   | ret=>exact ⟨p+1,by simp only [dB]; rw [hm p (p+1) (by omega) _ _ hp]; exact hr⟩
   | pan v=>exact ⟨p+1,by simp only [dB]; rw [hm p (p+1) (by omega) _ _ hp]; exact hr⟩
theorem Ay {fs:Nat→bY} {f:bY} (h:Tends fs f):∀ (c:IC) (bar:List Nat) (env:Env) (σ:Sto) r,evC f fI bar c env σ=some r→∃ n,evC (fs n) (fun s x=>dB s n x) bar c env σ=some r:=by
 have lift:∀ (c:IC) (bar:List Nat) (env:Env) (σ:Sto) r n m,n≤m→evC (fs n) (fun s x=>dB s n x) bar c env σ=some r→evC (fs m) (fun s x=>dB s m x) bar c env σ=some r :=
  fun c bar env σ r n m hnm hr=>ql (h.mono n m hnm) (fun s t hst=>j8 hst n m hnm) c bar env σ r hr
 intro c
 induction c with
 | skip=>intro bar env σ r hr; exact ⟨0,hr⟩
 | stuck=>intro bar env σ r hr; cases hr
 | seq a b iha ihb =>
  intro bar env σ r hr
  simp only [evC] at hr ⊢
  cases ha:evC f fI bar a env σ with
  | none=>rw [ha] at hr; cases hr
  | some y =>
   rw [ha] at hr
   obtain ⟨n,hn⟩:=iha _ _ _ _ ha
   obtain ⟨e,y1,y2⟩:=y
   cases e with
   | norm =>
    obtain ⟨m,hm⟩:=ihb _ _ _ _ hr
    exact ⟨max n m,by rw [lift _ _ _ _ _ n (max n m) (by omega) hn]; exact lift _ _ _ _ _ m (max n m) (by omega) hm⟩
   | exit id=>exact ⟨n,by rw [hn]; exact hr⟩
   | ret=>exact ⟨n,by rw [hn]; exact hr⟩
   | pan v=>exact ⟨n,by rw [hn]; exact hr⟩
 | reg d ops keep =>
  intro bar env σ r hr
  simp only [evC] at hr ⊢
  cases ha:bD f bar ops env σ with
  | none=>rw [ha] at hr; simp at hr
  | some y =>
   rw [ha] at hr
   obtain ⟨n,hn⟩:=J5 h bar _ _ _ _ ha
   exact ⟨n,by rw [hn]; exact hr⟩
 | psa c l ih =>
  intro bar env σ r hr
  simp only [evC] at hr ⊢
  cases hc:evC f fI bar c env σ with
  | none=>rw [hc] at hr; cases hr
  | some y =>
   rw [hc] at hr
   obtain ⟨n,hn⟩:=ih _ _ _ _ hc
   exact ⟨n,by rw [hn]; exact hr⟩
 | ps l c ih =>
  intro bar env σ r hr
  simp only [evC] at hr ⊢
  cases hp:psE bar env σ l with
  | none=>rw [hp] at hr; cases hr
  | some y=>rw [hp] at hr; exact ih _ _ _ _ hr
 | cond c a b iha ihb =>
  intro bar env σ r hr
  simp only [evC] at hr ⊢
  split at hr
  ·exact iha _ _ _ _ hr
  ·exact ihb _ _ _ _ hr
  ·cases hr
 | block id a ih =>
  intro bar env σ r hr
  simp only [evC] at hr ⊢
  cases ha:evC f fI bar a env σ with
  | none=>rw [ha] at hr; cases hr
  | some y =>
   rw [ha] at hr
   obtain ⟨n,hn⟩:=ih _ _ _ _ ha
   exact ⟨n,by rw [hn]; exact hr⟩
 | loop a ih =>
  intro bar env σ r hr
  simp only [evC] at hr ⊢
  obtain ⟨n,hn⟩:=sP hr
  exact LC (ss:=fun n x=>evC (fs n) (fun s x=>dB s n x) bar a x.1 x.2) (fun n m hnm x r hr=>lift _ _ _ _ _ n m hnm hr) (fun x r hr=>ih _ _ _ _ hr) n _ _ hn
 | cut a keep ih =>
  intro bar env σ r hr
  simp only [evC] at hr ⊢
  cases ha:evC f fI (σ.length::bar) a env σ with
  | none=>rw [ha] at hr; cases hr
  | some y =>
   rw [ha] at hr
   obtain ⟨n,hn⟩:=ih _ _ _ _ ha
   exact ⟨n,by rw [hn]; exact hr⟩
 | rfunc x ps keep asg bd _ _ =>
  intro bar env σ r hr
  simp only [evC] at hr ⊢
  split at hr
  ·rename_i g' cap hx
   split at hr
   ·rename_i hg
    cases hc:f bar g' (.yld σ.length::cap) (σ++[.loop (restrict keep env) ps asg bd 0 none]) with
    | none=>rw [hc] at hr; cases hr
    | some y =>
     rw [hc] at hr
     obtain ⟨n,hn⟩:=h.hit _ _ _ _ _ hc
     exact ⟨n,by simp only [if_pos hg,hn]; exact hr⟩
   ·cases hr
  ·cases hr
 | dfr=>intro bar env σ r hr; cases hr
 | exit id _=>intro bar env σ r hr; exact ⟨0,hr⟩
 | ret _=>intro bar env σ r hr; exact ⟨0,hr⟩
structure TendsC (gs:Nat→sJ) (g:sJ):Prop where
 mono:∀ n m,n≤m→LeC (gs n) (gs m)
 hit:∀ l c e s r,g l c e s=some r→∃ n,gs n l c e s=some r
theorem OC {gs:Nat→sJ} {g:sJ} (h:TendsC gs g):∀ (c:IC) (bar:List Nat) (u:Option PV) (env:Env) (σ:Sto) r,evR g bar c u env σ=some r→∃ n,evR (gs n) bar c u env σ=some r:=by
 intro c
 have dflt:∀ (c:IC) (bar:List Nat) (u:Option PV) (env:Env) (σ:Sto) (r:Ex×Option PV×Env×Sto),ws g bar c u env σ=some r→∃ n,ws (gs n) bar c u env σ=some r:=by
  intro c bar u env σ r hr
  unfold ws at hr ⊢
  cases ha:g bar c env σ with
  | none=>rw [ha] at hr; cases hr
  | some y =>
   obtain ⟨n,hn⟩:=h.hit _ _ _ _ _ ha
   exact ⟨n,by rw [hn]; rw [ha] at hr; exact hr⟩
 induction c with
 | seq a b iha ihb =>
  intro bar u env σ r hr
  simp only [evR] at hr ⊢
  cases ha:evR g bar a u env σ with
  | none=>rw [ha] at hr; cases hr
  | some y =>
   rw [ha] at hr
   obtain ⟨n,hn⟩:=iha _ _ _ _ _ ha
   obtain ⟨e,y1,y2,y3⟩:=y
   cases e with
   | norm =>
    obtain ⟨m,hm⟩:=ihb _ _ _ _ _ hr
    exact ⟨max n m,by rw [A2 (h.mono n (max n m) (by omega)) _ _ _ _ _ _ hn]; exact A2 (h.mono m (max n m) (by omega)) _ _ _ _ _ _ hm⟩
   | exit id=>exact ⟨n,by rw [hn]; exact hr⟩
   | ret=>exact ⟨n,by rw [hn]; exact hr⟩
   | pan v=>exact ⟨n,by rw [hn]; exact hr⟩
 | cond c a b iha ihb =>
  intro bar u env σ r hr
  simp only [evR] at hr ⊢
  split at hr
  ·exact iha _ _ _ _ _ hr
  ·exact ihb _ _ _ _ _ hr
  ·cases hr
 | reg d ops keep =>
  intro bar u env σ r hr
  cases d with
  | some ix=>exact dflt _ _ _ _ _ _ hr
  | none =>
   simp only [evR] at hr ⊢
   split at hr
   ·rename_i hh; simp only [if_pos hh]; exact ⟨0,hr⟩
   ·rename_i hh; simp only [if_neg hh]; exact dflt _ _ _ _ _ _ hr
 | _=>exact fun bar u env σ r hr=>dflt _ _ _ _ _ _ hr
theorem J6 {T:FuncId→Option IF} {gs:Nat→sJ} {g:sJ} (h:TendsC gs g) {bar:List Nat} {k:FuncId} {args:List PV} {u:Option PV} {σ:Sto} {r} (hr:pB T g bar k args u σ=some r):∃ n,pB T (gs n) bar k args u σ=some r:=by
 unfold pB at hr ⊢
 cases hT:T k with
 | none=>rw [hT] at hr; cases hr
 | some fn =>
  rw [hT] at hr
  simp only at hr ⊢
  split at hr
  ·rename_i hc
   simp only [if_pos hc]
   cases ha:evR g (σ.length::bar) fn.body u (ep 0 args) σ with
   | none=>rw [ha] at hr; cases hr
   | some y =>
    obtain ⟨n,hn⟩:=OC h _ _ _ _ _ _ ha
    exact ⟨n,by rw [hn]; rw [ha] at hr; exact hr⟩
  ·cases hr
theorem OD {T:FuncId→Option IF} {gs:Nat→sJ} {g:sJ} (h:TendsC gs g):∀ (c:IC) (bar:List Nat) (env:Env) (σ:Sto) r,evD T g bar c env σ=some r→∃ n,evD T (gs n) bar c env σ=some r:=by
 intro c
 have dflt:∀ (c:IC) (bar:List Nat) (env:Env) (σ:Sto) (r:Option PV×Env×Sto),AL g bar c env σ=some r→∃ n,AL (gs n) bar c env σ=some r:=by
  intro c bar env σ r hr
  unfold AL at hr ⊢
  cases ha:g bar c env σ with
  | none=>rw [ha] at hr; cases hr
  | some y =>
   obtain ⟨n,hn⟩:=h.hit _ _ _ _ _ ha
   exact ⟨n,by rw [hn]; rw [ha] at hr; exact hr⟩
 induction c with
 | seq a b iha ihb =>
  intro bar env σ r hr
  simp only [evD] at hr ⊢
  cases ha:g bar a env σ with
  | none=>rw [ha] at hr; cases hr
  | some y =>
   rw [ha] at hr
   obtain ⟨n,hn⟩:=h.hit _ _ _ _ _ ha
   obtain ⟨e,y1,y2⟩:=y
   cases e with
   | norm =>
    obtain ⟨m,hm⟩:=ihb _ _ _ _ hr
    exact ⟨max n m,by rw [h.mono n (max n m) (by omega) _ _ _ _ _ hn]; exact wC (h.mono m (max n m) (by omega)) _ _ _ _ _ hm⟩
   | exit id=>exact ⟨n,by rw [hn]; exact hr⟩
   | ret=>exact ⟨n,by rw [hn]; exact hr⟩
   | pan v=>exact ⟨n,by rw [hn]; exact hr⟩
 | dfr pre keep k args rest ih =>
  intro bar env σ r hr
  simp only [evD] at hr ⊢
  split at hr
  ·split at hr
   ·split at hr
    ·rename_i h1
     obtain ⟨n,hn⟩:=ih _ _ _ _ h1
     split at hr
     ·rename_i h2
      obtain ⟨m,hm⟩:=J6 h h2
      refine ⟨max n m,?_⟩
      rw [wC (h.mono n (max n m) (by omega)) _ _ _ _ _ hn]
      simp only
      rw [A3 (h.mono m (max n m) (by omega)) hm]
      exact hr
     ·cases hr
    ·cases hr
   ·cases hr
  ·cases hr
 | _=>exact fun bar env σ r hr=>dflt _ _ _ _ _ hr
theorem HU {fs:Nat→bY} {f:bY} (h:Tends fs f) (bars:List Nat) (l:FuncId) (args:List PV) (σ:Sto) r (hr:nM f fI bars l args σ=some r):∃ n,nM (fs n) (fun s x=>dB s n x) bars l args σ=some r:=by
 have lift:∀ (c:IC) (bar:List Nat) (env:Env) (σ:Sto) r n m,n≤m→evC (fs n) (fun s x=>dB s n x) bar c env σ=some r→evC (fs m) (fun s x=>dB s m x) bar c env σ=some r :=
  fun c bar env σ r n m hnm hr=>ql (h.mono n m hnm) (fun s t hst=>j8 hst n m hnm) c bar env σ r hr
 unfold nM at hr ⊢
 split at hr
 ·split at hr
  ·rename_i hl
   split at hr
   ·rename_i h1
    obtain ⟨n,hn⟩:=Ay h _ _ _ _ _ h1
    split at hr
    ·rename_i hs
     split at hr
     ·rename_i h2
      obtain ⟨m,hm⟩:=Ay h _ _ _ _ _ h2
      refine ⟨max n m,?_⟩
      rw [if_pos hl,lift _ _ _ _ _ n (max n m) (by omega) hn]
      simp only [hs]
      rw [lift _ _ _ _ _ m (max n m) (by omega) hm]
      exact hr
     ·cases hr
    ·cases hr
   ·cases hr
  ·cases hr
 ·cases hr
theorem J7 {fs:Nat→bY} {f:bY} (h:Tends fs f):TendsC (fun n=>evC (fs n) (fun s x=>dB s n x)) (evC f fI) :=
 ⟨fun n m hnm l c e s r hr=>ql (h.mono n m hnm) (fun s t hst=>j8 hst n m hnm) c l e s r hr,fun l c e s r hr=>Ay h c l e s r hr⟩
end
end Go.Ev

namespace Go.Ev
variable [CodeRel]
theorem ENV.cons {n:Nat} {κ:Kn} {env:Env} {tmps:Array Value} (h:ENV κ n env tmps) {d:Nat} {v:PV} {x:Value} (hd:d<tmps.size) (hv:RelV κ v x) (hb:below n v=true):ENV κ n ((d,v)::env) (tmps.setIfInBounds d x):=by
 refine ⟨fun s u hs=>?_,fun s u hs=>?_,fun s u hs=>?_⟩<;>simp only [bw] at hs<;>split at hs
 ·rename_i hds; subst hds; cases hs
  rw [Array.getD_eq_getD_getElem?,Array.getElem?_setIfInBounds_self_of_lt hd]; exact hv
 ·rename_i hds
  have:=h.rel s u hs
  rw [Array.getD_eq_getD_getElem?] at this ⊢
  rwa [Array.getElem?_setIfInBounds_ne hds]
 ·cases hs; exact hb
 ·exact h.wf s u hs
 ·rename_i hds; subst hds; simpa using hd
 ·simpa using h.lt s u hs
theorem ENV.put {n:Nat} {κ:Kn} {env:Env} {a:Act} (h:ENV κ n env a.tmps) {dst:Option Nat} {v:PV} {x:Value} (hd:∀ d,dst=some d→d<a.tmps.size) (hv:RelV κ v x) (hb:below n v=true):ENV κ n (d7 env dst v) (a.put dst x).tmps:=by
 cases dst with
 | none=>exact h
 | some d=>exact h.cons (hd d rfl) hv hb
theorem gL {env:Env} {s:Nat} {v:PV}:∀ {keep:List Nat},bw (restrict keep env) s=some v→bw env s=some v
 | [],h=>by simp [restrict,bw] at h
 | k::r,h=>by
  simp only [restrict] at h
  split at h
  ·rename_i u hu
   simp only [bw] at h
   split at h
   ·rename_i hks; subst hks; rw [hu,h]
   ·exact gL h
  ·exact gL h
theorem ENV.restrict {n:Nat} {κ:Kn} {env:Env} {tmps:Array Value} (h:ENV κ n env tmps) (keep:List Nat):ENV κ n (Ev.restrict keep env) tmps :=
 ⟨fun s v hs=>h.rel s v (gL hs),fun s v hs=>h.wf s v (gL hs),fun s v hs=>h.lt s v (gL hs)⟩
theorem iY (a:Act) (dst:Option Nat) (x:Value):(a.put dst x).tmps.size=a.tmps.size:=by cases dst<;>simp [Act.put]
theorem fJ (a:Act) (dst:Option Nat) (x:Value):(a.put dst x).defers=a.defers:=by cases dst<;>simp [Act.put]
theorem INV.drew {bars:List Nat} {κ:Kn} {σ:Sto} {w:World} (h:INV bars κ σ w) (d:Nat):INV bars κ σ { w with drawn:=d } :=
 ⟨fun i ob hs=>by
  have:=h.obs i ob hs
  cases ob<;>exact this,h.inj,h.mem,h.cap,h.wf,h.wfb⟩
def FW (ro:Option Nat):Fence:={ fn:=fun _=>True,depth:=none,alive:=false,round:=ro }
theorem A4 {ro:Option Nat} {n:Nat} {P:Program} {f:FuncId} {args:Array Value} {w:World} {R:Ending→World→Prop} (h:Calls P f args w R):CallsIn (FW ro) n P f args w R :=
 (callsIn_wide (n:=n)).2 h
theorem Gb {ro:Option Nat} {n:Nat} {P:Program} {f:FuncId} {args:Array Value} {w:World} {R:Ending→World→Prop} (h:CallsIn (FW ro) n P f args w R):Calls P f args w R :=
 (callsIn_wide (n:=n)).1 h
def Gc (D:Nat):Deferred:={ target:=.collected D,args:=#[] }
structure Marks (κ:Kn) (σ:Sto) (w0 w:World) (Ds:List Nat):Prop where
 nd:Ds.Nodup
 ge:∀ D∈Ds,w0.heap.size≤D
 at_:∀ D∈Ds,w.heap[D]? = some (.deferred (some []))
 no:∀ D∈Ds,∀ i,own κ σ i≠some D
def Dfr (κ:Kn) (σ:Sto) (w0 w:World) (l l':List Deferred):Prop:=∃ Ds:List Nat,l'=Ds.map Gc++l∧Marks κ σ w0 w Ds
theorem Dfr.of_eq {κ:Kn} {σ:Sto} {w0 w:World} {l l':List Deferred} (h:l'=l):Dfr κ σ w0 w l l' :=
 ⟨[],by simpa using h,⟨List.nodup_nil,by simp,by simp,by simp⟩⟩
theorem Dfr.refl {κ:Kn} {σ:Sto} {w0 w:World} {l:List Deferred}:Dfr κ σ w0 w l l:=.of_eq rfl
theorem Dfr.sto {κ:Kn} {σ σ':Sto} {w0 w:World} {l l':List Deferred} (h:Dfr κ σ w0 w l l') (hs:∀ i b,own κ σ' i=some b→own κ σ i=some b):Dfr κ σ' w0 w l l':=by
 obtain ⟨Ds,h1,h2⟩:=h
 exact ⟨Ds,h1,h2.nd,h2.ge,h2.at_,fun D hD i hi=>h2.no D hD i (hs i D hi)⟩
theorem Dfr.trans {κ κ':Kn} {σ σ':Sto} {n:Nat} {w0 w w':World} {l l1 l2:List Deferred} (h:Dfr κ σ w0 w l l1) (hk:Kept n κ σ w κ' σ' w') (hs:w0.heap.size≤w.heap.size) (h':Dfr κ' σ' w w' l1 l2):Dfr κ' σ' w0 w' l l2:=by
 obtain ⟨Ds,rfl,h1⟩:=h
 obtain ⟨Es,rfl,h2⟩:=h'
 have hlt:∀ D∈Ds,D<w.heap.size:=fun D hD=>(Array.getElem?_eq_some_iff.1 (h1.at_ D hD)).1
 refine ⟨Es++Ds,by simp,⟨?_,fun D hD=>?_,fun D hD=>?_,fun D hD i hi=>?_⟩⟩
 ·rw [List.nodup_append]
  exact ⟨h2.nd,h1.nd,fun a ha b hb e=>by subst e; have:=h2.ge a ha; have:=hlt a hb; omega⟩
 ·simp only [List.mem_append] at hD
  rcases hD with hD|hD
  ·exact Nat.le_trans hs (h2.ge D hD)
  ·exact h1.ge D hD
 ·simp only [List.mem_append] at hD
  rcases hD with hD|hD
  ·exact h2.at_ D hD
  ·rw [hk.keep D (hlt D hD) (h1.no D hD)]; exact h1.at_ D hD
 ·simp only [List.mem_append] at hD
  rcases hD with hD|hD
  ·exact h2.no D hD i hi
  ·rcases hk.own i D hi with ⟨j,hj⟩|hge
   ·exact h1.no D hD j hj
   ·have:=hlt D hD; omega
structure Post (bars:List Nat) (κ:Kn) (σ:Sto) (w:World) (a:Act) (r:Ex×Env×Sto) (e:Exit) (a':Act) (w':World) (κ':Kn):Prop where
 inv:INV bars κ' r.2.2 w'
 kept:Kept σ.length κ σ w κ' r.2.2 w'
 len:σ.length≤r.2.2.length
 size:a'.tmps.size=a.tmps.size
 defers:Dfr κ' r.2.2 w w' a.defers a'.defers
 ex:match r.1 with
  | .norm=>e=.normal∧ENV κ' r.2.2.length r.2.1 a'.tmps
  | .exit id=>e=.exit id∧ENV κ' r.2.2.length r.2.1 a'.tmps
  | .ret=>e=.ret∧ENV κ' r.2.2.length r.2.1 a'.tmps
  | .pan v=>∃ x,e=.panic [{ v:=x,recovered:=false }]∧RelV κ' v x∧below r.2.2.length v=true∧ENV κ' r.2.2.length r.2.1 a'.tmps
theorem Post.trans {bars:List Nat} {κ κ1 κ2:Kn} {σ σ1:Sto} {w w1 w2:World} {a a1 a2:Act} {r:Ex×Env×Sto} {e:Exit} (hk:Kept σ.length κ σ w κ1 σ1 w1) (hl:σ.length≤σ1.length) (hs:a1.tmps.size=a.tmps.size) (hd:Dfr κ1 σ1 w w1 a.defers a1.defers) (h:Post bars κ1 σ1 w1 a1 r e a2 w2 κ2):Post bars κ σ w a r e a2 w2 κ2 :=
 ⟨h.inv,hk.trans h.kept hl,Nat.le_trans hl h.len,h.size.trans hs,hd.trans h.kept hk.size h.defers,h.ex⟩
def jG (bars:List Nat) (κ:Kn) (σ:Sto) (w:World) (r:Out×Sto) (e:Ending) (w':World):Prop :=
 ∃ κ',INV bars κ' r.2 w'∧Kept σ.length κ σ w κ' r.2 w'∧σ.length≤r.2.length∧match r.1 with
  | .ret v=>∃ x,e=.returned x∧RelV κ' v x∧below r.2.length v=true
  | .pan v=>∃ x,e=.panicked [{ v:=x,recovered:=false }]∧RelV κ' v x∧below r.2.length v=true
def I9 (P:Program) (l:Nat) (xs:Array Value) (w:World) (R:Ending→World→Prop):Prop :=
 ∃ r:Loop,w.heap[l]? = some (.loop r)∧xs.size=r.params.size∧RoundIn Fence.wide 0 P l r.fn ((r.params.zip xs).foldl (fun t (p,v)=>t.setIfInBounds p v) r.tmps) r.assign r.body w R
def HV (P:Program) (κ:Kn) (f:FuncId) (xs:Array Value) (w:World) (R:Ending→World→Prop):Prop :=
 (f<YB→Calls P f xs w R)∧∀ l,f=YB+l→κ.gen l=1∧I9 P (κ.ρ l).1 xs w R
def dL (P:Program) (calls:bY):Prop:=∀ bars f args σ r,calls bars f args σ=some r→(f<YB→eO P f) ∧
 ∀ κ w (xs:Array Value),INV bars κ σ w→RelL κ args xs.toList→below.belowAll σ.length args=true→HV P κ f xs w (jG bars κ σ w r)
def LD (ops:Array Oper):Option (Nat×Bool)→Option (Nat×Bool)→Bool
 | none,none=>true
 | some (s,b),some (j,c)=>b == c && (match (ops[j]?).bind (·.dst) with|some d=>d == s|none=>false)
 | _,_=>false
def OE (nt:Nat):Option Nat→Option Nat→Bool
 | none,none=>true
 | some d,some e=>d == e && decide (d<nt)
 | _,_=>false
def qX (P:Program) (nt:Nat) (ops:Array Oper) (x:IOper) (o:Oper):Bool:=OE nt x.dst o.dst && LD ops x.guard o.guard && zb P x.op o.op
def jH (P:Program) (nt:Nat) (ops:Array Oper):List Nat→List IOper→Bool
 | [],[]=>true
 | k::l,x::xs=>(match ops[k]? with|some o=>qX P nt ops x o|none=>false) && jH P nt ops l xs
 | _,_=>false
section
variable {P:Program} {bars:List Nat} {nt:Nat}
theorem xL {d d':Option Nat} (h:OE nt d d'=true):d'=d∧∀ e,d=some e→e<nt:=by
 cases d<;>cases d'<;>simp [OE] at h ⊢
 obtain ⟨rfl,h⟩:=h
 exact ⟨rfl,h⟩
theorem qY {ops:Array Oper} {x:IOper} {o:Oper} {env:Env} {κ:Kn} {n:Nat} {a:Act} (he:ENV κ n env a.tmps) (hg:LD ops x.guard o.guard=true) {b:Bool} (hw:dP env x.guard=some b):Region.wanted o (yielded ops a.tmps)=b:=by
 unfold Region.wanted
 cases hx:x.guard with
 | none =>
  rw [hx] at hg hw
  cases ho:o.guard with
  | none=>simp [dP] at hw; subst hw; rfl
  | some p=>rw [ho] at hg; simp [LD] at hg
 | some p =>
  obtain ⟨s,c⟩:=p
  rw [hx] at hg hw
  cases ho:o.guard with
  | none=>rw [ho] at hg; simp [LD] at hg
  | some q =>
   obtain ⟨j,c'⟩:=q
   rw [ho] at hg
   simp only [LD,Bool.and_eq_true,beq_iff_eq] at hg
   obtain ⟨rfl,hd⟩:=hg
   split at hd
   ·rename_i d hd'
    simp only [beq_iff_eq] at hd
    subst hd
    simp only [dP] at hw
    split at hw
    ·rename_i b' hl
     have h1:=he.rel _ _ hl
     have h2:=he.lt _ _ hl
     simp only [RelV] at h1
     cases hw
     have h3:a.tmps[d]? = some (.bool b'):=by
      rw [Array.getD_eq_getD_getElem?,Array.getElem?_eq_getElem h2] at h1
      rw [Array.getElem?_eq_getElem h2]; simpa using h1
     simp only [yielded,hd',Option.bind_some,h3]
     cases c<;>cases b'<;>rfl
    ·rename_i hl
     have h1:=he.rel _ _ hl
     have h2:=he.lt _ _ hl
     simp only [RelV] at h1
     obtain ⟨vs,h1,-⟩:=h1
     cases hw
     have h3:a.tmps[d]? = some (.tuple vs):=by
      rw [Array.getD_eq_getD_getElem?,Array.getElem?_eq_getElem h2] at h1
      rw [Array.getElem?_eq_getElem h2]; simpa using h1
     simp only [yielded,hd',Option.bind_some,h3]
     rfl
    ·cases hw
   ·cases hd
def Nxt (K:Act→World→Prop) (Q:Exit→Act→World→Prop):Exit→Act→World→Prop
 | .normal,a,w=>K a w
 | e,a,w=>Q e a w
theorem A5 (a:Act) {dst:Option Nat} {x:Value} {s:Nat} (h:dst≠some s):(a.put dst x).tmps.getD s undef=a.tmps.getD s undef:=by
 cases dst with
 | none=>rfl
 | some d =>
  have hne:d≠s:=fun e=>h (by rw [e])
  simp only [Act.put]
  rw [Array.getD_eq_getD_getElem?,Array.getD_eq_getD_getElem?,Array.getElem?_setIfInBounds_ne hne]
theorem Gd {x:IOp} {op:Op} (h:zb P x op=true):∀ c,op≠.defer c:=by
 rintro c rfl
 unfold zb at h
 split at h<;>first|(cases h; done)|(rename_i h'; cases h')
theorem DQ {ro:Option Nat} {o:Oper} {a:Act} {next:Act→World→Prop} {Q:Exit→Act→World→Prop} {κ:Kn} {σ:Sto} {w:World} {res:Result Next} {f:FuncId} {xs:Array Value} {R:Ending→World→Prop}
  (hg:SE κ σ w res f xs) (hc:HV P κ f xs w R) (hR:∀ e w',R e w'→match e with
   | .returned v=>next (a.put o.dst v) w'
   | .panicked chain=>Q (.panic chain) a w'
   | .outgrown=>LetsOut Q):o.uponIn (FW ro) 0 P a next Q res:=by
 rcases hg with ⟨hlt,rfl⟩|⟨l,b,rfl,hl,hb,hres⟩
 ·refine ⟨fun h=>by simp [FW] at h,A4 ((hc.1 hlt).mono fun e w' he=>?_)⟩
  have:=hR e w' he
  cases e<;>exact this
 ·obtain ⟨h1,r,h2,h3,h4⟩:=hc.2 l rfl
  rw [← hb h1] at h2 h4
  rw [hres r h2 h3]
  refine ⟨fun h=>by simp [FW] at h,RoundIn.mono (F:=FW ro) h4 fun e w' he=>?_⟩
  have:=hR e w' he
  cases e<;>exact this
theorem Az {ro:Option Nat} {calls:bY} (hcalls:dL P calls) {ops:Array Oper} {k:Nat} {x:IOper} {o:Oper} (ho:ops[k]? = some o) (hx:qX P nt ops x o=true) {Q:Exit→Act→World→Prop} {K:Act→World→Prop} {env:Env} {σ:Sto} {r:Ex×Env×Sto} {κ:Kn} {a:Act} {w:World}
  (hi:INV bars κ σ w) (he:ENV κ σ.length env a.tmps) (hs:a.tmps.size=nt) (hr:cL calls bars x env σ=some r) (hQ:∀ e a' w' κ',Post bars κ σ w a r e a' w' κ'→(∀ s,x.dst≠some s→a'.tmps.getD s undef=a.tmps.getD s undef)→a'.defers=a.defers→Nxt K Q e a' w'):wpOpIn (FW ro) 0 P ops Q k K a w:=by
 simp only [qX,Bool.and_eq_true] at hx
 obtain ⟨⟨hd,hg⟩,hop⟩:=hx
 obtain ⟨hd1,hd2⟩:=xL hd
 have hlt:∀ d,o.dst=some d→d<a.tmps.size:=fun d h=>by rw [hs]; rw [hd1] at h; exact hd2 d h
 have hsem:o.semAt (FW ro).round a.eval=execOp a.eval o:=Oper.semAt_eq _ _ _ (Gd hop)
 unfold wpOpIn
 simp only [ho]
 unfold cL at hr
 rw [← hd1] at hr
 split at hr
 ·rename_i hw
  rw [if_pos (qY he hg hw)]
  refine ⟨fun _ _=>trivial,?_⟩
  rw [hsem]
  split at hr
  ·rename_i v σ' hv
   cases hr
   obtain ⟨κ',w',y,hres,h1,h2,h3,h4,h5⟩:=oR hop hi he hv (by simp)
   have hn:=hQ .normal (a.put o.dst y) w' κ' ⟨h3,h4,h5,iY _ _ _,.of_eq (fJ _ _ _),rfl,ENV.put (he.mono h4.ext h5) hlt h1 h2⟩ (fun s hs=>A5 a (by rw [hd1]; exact hs)) (fJ _ _ _)
   rcases hres with hres|⟨hres,rfl⟩
   ·rw [hres]; exact hn
   ·rw [hres]; exact hn
  ·rename_i f args σ' hv
   split at hr
   ·rename_i v σ'' hcl
    split at hr
    ·cases hr
    ·cases hr
     obtain ⟨hca,hok⟩:=hcalls _ _ _ _ _ hcl
     obtain ⟨rfl,ys,hres,h1,h2⟩:=oR hop hi he hv (fun f' xs' σ1 h=>by cases h; exact hca)
     refine DQ hres (hok κ w ys hi h1 h2) fun e w' hp=>?_
     obtain ⟨κ',h3,h4,h5,y,rfl,h6,h7⟩:=hp
     simp only at h3 h4 h5 h6 h7
     have h5':σ'.length≤σ''.length:=by omega
     exact hQ .normal (a.put o.dst y) w' κ' ⟨h3,h4,h5',iY _ _ _,.of_eq (fJ _ _ _),rfl,ENV.put (he.mono h4.ext h5') hlt h6 h7⟩ (fun s hs=>A5 a (by rw [hd1]; exact hs)) (fJ _ _ _)
   ·rename_i v σ'' hcl
    cases hr
    obtain ⟨hca,hok⟩:=hcalls _ _ _ _ _ hcl
    obtain ⟨rfl,ys,hres,h1,h2⟩:=oR hop hi he hv (fun f' xs' σ1 h=>by cases h; exact hca)
    refine DQ hres (hok κ w ys hi h1 h2) fun e w' hp=>?_
    obtain ⟨κ',h3,h4,h5,y,rfl,h6,h7⟩:=hp
    simp only at h3 h4 h5 h6 h7
    exact hQ (.panic [{ v:=y,recovered:=false }]) _ _ κ' ⟨h3,h4,by simp only; omega,rfl,.refl,y,rfl,h6,h7,he.mono h4.ext (by simp only; omega)⟩ (fun _ _=>rfl) rfl
   ·cases hr
  ·rename_i v σ' hv
   cases hr
   obtain ⟨rfl,y,hres,h1,h2⟩:=oR hop hi he hv (by simp)
   rw [hres]
   exact hQ (.panic [{ v:=y,recovered:=false }]) _ _ κ ⟨hi,Kept.refl _ _ _ _,Nat.le_refl _,rfl,.refl,y,rfl,h1,h2,he⟩ (fun _ _=>rfl) rfl
  ·cases hr
 ·rename_i hw
  cases hr
  rw [if_neg (by rw [qY he hg hw]; simp)]
  exact ⟨fun _ _=>trivial,hQ .normal (a.put o.dst undef) w κ ⟨hi,Kept.refl _ _ _ _,Nat.le_refl _,iY _ _ _,.of_eq (fJ _ _ _),rfl,ENV.put he hlt (iK κ) rfl⟩ (fun s hs=>A5 a (by rw [hd1]; exact hs)) (fJ _ _ _)⟩
 ·cases hr
theorem Ge {calls:bY} {x:IOper} {env:Env} {σ:Sto} {r:Ex×Env×Sto} (h:cL calls bars x env σ=some r):r.1=.norm∨∃ v,r.1=.pan v:=by
 unfold cL at h
 split at h
 ·split at h
  ·cases h; exact .inl rfl
  ·split at h
   ·split at h
    ·cases h
    ·cases h; exact .inl rfl
   ·cases h; exact .inr ⟨_,rfl⟩
   ·cases h
  ·cases h; exact .inr ⟨_,rfl⟩
  ·cases h
 ·cases h; exact .inl rfl
 ·cases h
theorem DR {ro:Option Nat} {calls:bY} (hcalls:dL P calls) {ops:Array Oper} {Q:Exit→Act→World→Prop}:∀ (l:List Nat) (xs:List IOper),jH P nt ops l xs=true→∀ {env:Env} {σ:Sto} {r:Ex×Env×Sto} {κ:Kn} {a:Act} {w:World},
  INV bars κ σ w→ENV κ σ.length env a.tmps→a.tmps.size=nt→bD calls bars xs env σ=some r→(∀ e a' w' κ',Post bars κ σ w a r e a' w' κ'→a'.defers=a.defers→Q e a' w')→wpOpsIn (FW ro) 0 P ops Q l a w
 | [],[],_,env,σ,r,κ,a,w,hi,he,hs,hr,hQ=>by
  simp only [bD,Option.some.injEq] at hr
  subst hr
  exact hQ .normal a w κ ⟨hi,Kept.refl _ _ _ _,Nat.le_refl _,rfl,.refl,rfl,he⟩ rfl
 | [],_::_,hc,_,_,_,_,_,_,_,_,_,_,_=>by simp [jH] at hc
 | _::_,[],hc,_,_,_,_,_,_,_,_,_,_,_=>by simp [jH] at hc
 | k::l,x::xs,hc,env,σ,r,κ,a,w,hi,he,hs,hr,hQ=>by
  simp only [jH,Bool.and_eq_true] at hc
  obtain ⟨hx,hrest⟩:=hc
  split at hx
  ·rename_i o ho
   rw [wpOpsIn_cons]
   simp only [bD] at hr
   cases h1:cL calls bars x env σ with
   | none=>rw [h1] at hr; cases hr
   | some r1 =>
    rw [h1] at hr
    refine Az hcalls ho hx hi he hs h1 fun e a1 w1 κ1 hp _ hdf=>?_
    rcases Ge h1 with hn|⟨v,hn⟩
    ·obtain ⟨e1,env1,σ1⟩:=r1
     simp only at hn
     subst hn
     obtain ⟨rfl,he1⟩:=hp.ex
     exact DR hcalls l xs hrest hp.inv he1 (hp.size.trans hs) hr fun e a' w' κ' h hd=>hQ e a' w' κ' (h.trans hp.kept hp.len hp.size hp.defers) (hd.trans hdf)
    ·obtain ⟨e1,env1,σ1⟩:=r1
     simp only at hn
     subst hn
     cases hr
     obtain ⟨y,rfl,hv,hb⟩:=hp.ex
     exact hQ _ _ _ κ1 hp hdf
  ·cases hx
end
end Go.Ev

namespace Go.Ev
noncomputable section
variable [CodeRel]
def EqOn (l:List Nat) (e e':Env):Prop:=∀ s∈l,bw e s=bw e' s
theorem EqOn.left {l m:List Nat} {e e':Env} (h:EqOn (l++m) e e'):EqOn l e e':=fun s hs=>h s (by simp [hs])
theorem EqOn.right {l m:List Nat} {e e':Env} (h:EqOn (l++m) e e'):EqOn m e e':=fun s hs=>h s (by simp [hs])
theorem bj {e e':Env} {x:Opd} (h:EqOn x.use e e'):ev e x=ev e' x:=by
 cases x with
 | t n=>exact h n (by simp [Opd.use])
 | c v=>rfl
theorem t6 {e e':Env}:∀ {xs:List Opd},EqOn (xs.flatMap Opd.use) e e'→evs e xs=evs e' xs
 | [],_=>rfl
 | x::r,h=>by
  simp only [List.flatMap_cons] at h
  simp only [evs,bj h.left,t6 h.right]
theorem HW {e e':Env}:∀ {xs:List (Nat×Opd)},EqOn (xs.flatMap fun p=>p.2.use) e e'→evp e xs=evp e' xs
 | [],_=>rfl
 | (i,x)::r,h=>by
  simp only [List.flatMap_cons] at h
  simp only [evp,bj h.left,HW h.right]
theorem LE {e e':Env}:∀ {xs:List (Nat×Nat×Opd)},EqOn (xs.flatMap fun p=>p.2.2.use) e e'→evq e xs=evq e' xs
 | [],_=>rfl
 | (i,n,x)::r,h=>by
  simp only [List.flatMap_cons] at h
  simp only [evq,bj h.left,LE h.right]
theorem HX {e e':Env} {x:Option Opd} (h:EqOn (Ox x) e e'):evo e x=evo e' x:=by
 cases x with
 | none=>rfl
 | some x=>simp only [evo,bj (x:=x) h]
theorem wD {e e':Env} {σ:Sto} {f:Tgt} {vs:List PV} (h:EqOn f.use e e'):kR e σ f vs=kR e' σ f vs:=by
 cases f with
 | f n=>rfl
 | v x=>simp only [kR,bj (x:=x) h]
 | m x tab=>simp only [kR,bj (x:=x) h]
theorem LF {bars:List Nat} {σ:Sto} {e e':Env} {x:IOp} (h:EqOn x.use e e'):opE bars e σ x=opE bars e' σ x:=by
 cases x with
 | mov x=>simp only [opE,bj (x:=x) h]
 | pick c a b=>simp only [opE,bj (x:=c) h.left.left,bj (x:=a) h.left.right,bj (x:=b) h.right]
 | alloc _=>rfl
 | box _ x=>simp only [opE,bj (x:=x) h]
 | build _ ps=>simp only [opE,LE (xs:=ps) h]
 | bslice _ _ _ ps=>simp only [opE,HW (xs:=ps) h]
 | bslm _ _ _ ps=>simp only [opE,HW (xs:=ps) h]
 | load _ a=>simp only [opE,bj (x:=a) h]
 | store _ a x=>simp only [opE,bj (x:=a) h.left,bj (x:=x) h.right]
 | nilc x=>simp only [opE,bj (x:=x) h]
 | bin _ x y=>simp only [opE,bj (x:=x) h.left,bj (x:=y) h.right]
 | beq _ x y=>simp only [opE,bj (x:=x) h.left,bj (x:=y) h.right]
 | stq _ _ x y=>simp only [opE,bj (x:=x) h.left,bj (x:=y) h.right]
 | not x=>simp only [opE,bj (x:=x) h]
 | neg x=>simp only [opE,bj (x:=x) h]
 | conv _ x=>simp only [opE,bj (x:=x) h]
 | strc x=>simp only [opE,bj (x:=x) h]
 | miface _ x=>simp only [opE,bj (x:=x) h]
 | mfunc _ xs=>simp only [opE,t6 (xs:=xs) h]
 | mbm _ xs=>simp only [opE,t6 (xs:=xs) h]
 | isnil _ x=>simp only [opE,bj (x:=x) h]
 | slnil _ x=>simp only [opE,bj (x:=x) h]
 | mmap=>rfl
 | mslice _ _ l=>simp only [opE,bj (x:=l) h]
 | mslp _ _ l=>simp only [opE,bj (x:=l) h]
 | slice _ x lo hi mx=>simp only [opE,bj (x:=x) h.left.left.left,HX (x:=lo) h.left.left.right,HX (x:=hi) h.left.right,HX (x:=mx) h.right]
 | faddr _ x=>simp only [opE,bj (x:=x) h]
 | fld _ _ x=>simp only [opE,bj (x:=x) h]
 | iaddr _ _ x i=>simp only [opE,bj (x:=x) h.left,bj (x:=i) h.right]
 | idx x i=>simp only [opE,bj (x:=x) h.left,bj (x:=i) h.right]
 | lookup _ _ m k _=>simp only [opE,bj (x:=m) h.left,bj (x:=k) h.right]
 | mupd _ m k v=>simp only [opE,bj (x:=m) h.left.left,bj (x:=k) h.left.right,bj (x:=v) h.right]
 | lookup2 _ _ m k _=>simp only [opE,bj (x:=m) h.left,bj (x:=k) h.right]
 | mupd2 _ m k v=>simp only [opE,bj (x:=m) h.left.left,bj (x:=k) h.left.right,bj (x:=v) h.right]
 | del _ m k=>simp only [opE,bj (x:=m) h.left,bj (x:=k) h.right]
 | tas _ _ _ x=>simp only [opE,bj (x:=x) h]
 | extr _ x=>simp only [opE,bj (x:=x) h]
 | call f xs=>simp only [opE,t6 (xs:=xs) h.right,wD (f:=f) h.left]
 | callq f xs=>simp only [opE,t6 (xs:=xs) h.right,wD (f:=f) h.left]
 | callg f xs=>simp only [opE,t6 (xs:=xs) h.right,wD (f:=f) h.left]
 | cap x=>simp only [opE,bj (x:=x) h]
 | appr _ _ x l=>simp only [opE,bj (x:=x) h.left,bj (x:=l) h.right]
 | appz _ x y=>simp only [opE,bj (x:=x) h.left,bj (x:=y) h.right]
 | appq _ x y=>simp only [opE,bj (x:=x) h.left,bj (x:=y) h.right]
 | allocb _ _=>rfl
 | appx _ x y=>simp only [opE,bj (x:=x) h.left,bj (x:=y) h.right]
 | apps x y=>simp only [opE,bj (x:=x) h.left,bj (x:=y) h.right]
 | appo _ x y =>
  cases x with
  | c _=>rfl
  | t s=>simp only [opE,bj (x:=y) h.right]; have:=bj (x:=.t s) h.left; simp only [ev] at this; rw [this]
 | storeb b _ x y =>
  have hb:∀ p,lk e b p=lk e' b p:=fun p=>by unfold lk; rw [h b (by simp [IOp.use])]
  simp only [opE,bj (x:=x) h.right.left,bj (x:=y) h.right.right,hb]
 | storem av _ x y =>
  have hb:∀ (l:List Nat) p,EqOn l e e'→gy e l p=gy e' l p:=by
   intro l p
   induction l with
   | nil=>intro _; rfl
   | cons m r ih=>intro hl; simp only [gy,hl m (by simp),ih fun s hs=>hl s (by simp [hs])]
  simp only [opE,bj (x:=x) h.right.left,bj (x:=y) h.right.right,fun p=>hb av p h.left]
 | appm av _ x y =>
  have hb:∀ (l:List Nat) p,EqOn l e e'→gy e l p=gy e' l p:=by
   intro l p
   induction l with
   | nil=>intro _; rfl
   | cons m r ih=>intro hl; simp only [gy,hl m (by simp),ih fun s hs=>hl s (by simp [hs])]
  simp only [opE,bj (x:=x) h.right.left,bj (x:=y) h.right.right,fun p=>hb av p h.left]
 | loadb m _ a =>
  have hb:∀ p,lk e m p=lk e' m p:=fun p=>by unfold lk; rw [h m (by simp [IOp.use])]
  simp only [opE,bj (x:=a) h.right,hb]
 | callm av f xs=>simp only [opE,t6 (xs:=xs) h.right.right,wD (f:=f) h.right.left]
 | app _ x y=>simp only [opE,bj (x:=x) h.left,bj (x:=y) h.right]
 | len _ x=>simp only [opE,bj (x:=x) h]
 | mm _ x y=>simp only [opE,bj (x:=x) h.left,bj (x:=y) h.right]
 | dfr _ xs=>simp only [opE,t6 (xs:=xs) h]
 | panic x=>simp only [opE,bj (x:=x) h]
 | recover=>rfl
theorem A6 {e e':Env} {g:Option (Nat×Bool)} (h:EqOn (match g with|some (s,_)=>[s]|none=>[]) e e'):dP e g=dP e' g:=by
 cases g with
 | none=>rfl
 | some p=>obtain ⟨s,b⟩:=p; simp only [dP,h s (by simp)]
open Classical in
def dD (calls:bY) (bars:List Nat) (o:IOper) (env:Env) (σ:Sto):Option (PV×Sto) :=
 match dP env o.guard with
 | some true =>
  match opE bars env σ o.op with
  | some (.val v σ')=>some (v,σ')
  | some (.call f args σ') =>
   match calls bars f args σ' with
   | some (.ret v,σ'')=>if o.op.bad env σ' σ'' then none else some (v,σ'')
   | _=>none
  | _=>none
 | some false=>some (.tup [],σ)
 | none=>none
theorem sQ {calls:bY} {bars:List Nat} {o:IOper} {env env':Env} {σ σ':Sto} (h:cL calls bars o env σ=some (.norm,env',σ')):∃ v,dD calls bars o env σ=some (v,σ')∧env'=d7 env o.dst v:=by
 unfold cL at h
 unfold dD
 split at h
 ·rename_i hw
  split at h
  ·rename_i hop
   cases h; exact ⟨_,by simp only [hw,hop],rfl⟩
  ·rename_i hop
   split at h
   ·rename_i hc
    split at h
    ·cases h
    ·rename_i hq
     cases h
     exact ⟨_,by simp only [hw,hop,hc]; rw [if_neg hq],rfl⟩
   ·cases h
   ·cases h
  ·cases h
  ·cases h
 ·rename_i hw
  cases h; exact ⟨_,by simp only [hw],rfl⟩
 ·cases h
theorem si {calls:bY} {bars:List Nat} {o:IOper} {env:Env} {σ σ':Sto} {v:PV} (h:dD calls bars o env σ=some (v,σ')):cL calls bars o env σ=some (.norm,d7 env o.dst v,σ'):=by
 unfold dD at h
 unfold cL
 split at h
 ·rename_i hw
  split at h
  ·rename_i hop
   cases h; simp only [hw,hop]
  ·rename_i hop
   split at h
   ·rename_i hc
    split at h
    ·cases h
    ·rename_i hq
     cases h
     simp only [hw,hop,hc]; rw [if_neg hq]
   ·cases h
  ·cases h
 ·rename_i hw
  cases h; simp only [hw]
 ·cases h
theorem OF {o:IOp} {n:Nat} (h:n∈o.avs):n∈o.use:=by
 cases o<;>simp only [IOp.avs,List.not_mem_nil] at h<;>(simp only [IOp.use,List.mem_append]; exact .inl h)
theorem uU {calls:bY} {bars:List Nat} {o:IOper} {e e':Env} {σ:Sto} (h:EqOn o.use e e'):dD calls bars o e σ=dD calls bars o e' σ:=by
 unfold dD
 have hb:o.op.bad e=o.op.bad e':=funext fun σ'=>funext fun σ''=>by
  unfold IOp.bad
  rw [show (∃ n,n∈o.op.avs∧∃ v id,bw e n=some v∧top v=some id∧σ''[id]?≠σ'[id]?)=(∃ n,n∈o.op.avs∧∃ v id,bw e' n=some v∧top v=some id∧σ''[id]?≠σ'[id]?) from propext (exists_congr fun n=>and_congr_right fun hn=>by rw [h.left n (OF hn)])]
 rw [A6 h.right,LF h.left,hb]
theorem uV {calls:bY} {bars:List Nat} {o:IOper} {e e' e1:Env} {σ σ':Sto} {v:PV} (h:EqOn o.use e e') (hp:cL calls bars o e σ=some (.pan v,e1,σ')):e1=e∧cL calls bars o e' σ=some (.pan v,e',σ'):=by
 unfold cL at hp ⊢
 rw [← A6 h.right,← LF h.left]
 cases hw:dP e o.guard with
 | none=>rw [hw] at hp; cases hp
 | some g =>
  cases g with
  | false=>rw [hw] at hp; cases hp
  | true =>
   rw [hw] at hp
   simp only at hp ⊢
   cases hop:opE bars e σ o.op with
   | none=>rw [hop] at hp; cases hp
   | some r =>
    rw [hop] at hp
    cases r with
    | val v σ'=>cases hp
    | pan v σ'=>cases hp; exact ⟨rfl,rfl⟩
    | call f args σ' =>
     simp only at hp ⊢
     cases hc:calls bars f args σ' with
     | none=>rw [hc] at hp; cases hp
     | some q =>
      obtain ⟨ov,σ2⟩:=q
      rw [hc] at hp
      cases ov with
      | ret v =>
       simp only at hp
       split at hp<;>cases hp
      | pan v=>cases hp; exact ⟨rfl,rfl⟩
    | _=>cases hp
end
end Go.Ev

namespace Go.Ev
variable [CodeRel]
def OpR.v?:OpR→Option PV
 | .val v _=>some v
 | _=>none
theorem SI {bars:List Nat} {env:Env} {x:IOp} (hk:x.kind=0):∃ f:Option PV,∀ σ,opE bars env σ x=f.map fun v=>OpR.val v σ:=by
 refine ⟨(opE bars env [] x).bind OpR.v?,fun σ=>?_⟩
 cases x
 case len str x =>
  simp only [opE]
  cases ev env x with
  | none=>rfl
  | some v =>
   simp only [Option.bind_some]
   cases Ow str v with
   | none=>rfl
   | some n=>simp only [Option.bind_some]; split<;>rfl
 all_goals simp only [IOp.kind] at hk<;>(try (exact absurd hk (by decide)))<;>simp only [opE]
 all_goals first
  | (simp only [Option.bind_eq_bind,Option.bind_assoc,Option.bind_some,OpR.v?,Option.map_bind,Function.comp_def,Option.map_some]; done)
  | (repeat' split)<;>first|rfl|(simp only [Option.bind_assoc,Option.bind_some,OpR.v?,Option.map_bind,Function.comp_def,Option.map_some,Option.bind_none,Option.map_none]; done)|(simp_all [OpR.v?]; done)
def IOp.base:IOp→Opd
 | .load _ a=>a
 | .loadb m _ _=>.t m
 | .slice _ x _ _ _=>x
 | .iaddr _ _ x _=>x
 | .lookup _ _ m _ _=>m
 | .lookup2 _ _ m _ _=>m
 | .storeb b _ _ _=>.t b
 | _=>.c (.k (.bool true))
def Agree (v:PV) (σ τ:Sto):Prop:=∀ id,top v=some id→τ[id]? = σ[id]?
theorem Agree.refl (v:PV) (σ:Sto):Agree v σ σ:=fun _ _=>rfl
theorem Agree.of {v:PV} {σ τ:Sto} {n:Nat} (hb:below n v=true) (h:∀ i,i<n→τ[i]? = σ[i]?):Agree v σ τ:=by
 intro id ht
 apply h
 cases v<;>simp only [top,Option.some.injEq,reduceCtorEq] at ht<;>subst ht<;>simp_all [below]
theorem Gf {σ τ:Sto} {k:Option Nat} {p:PV} (hb:Agree p σ τ):qg τ k p=qg σ k p:=by
 cases p with
 | ptr id off=>simp only [qg,hb id rfl]
 | pa id ver i off=>simp only [qg,hb id rfl]
 | _=>rfl
theorem J8 {σ τ:Sto} {esz:Nat} {p:PV} {lo hi mx:Option PV} (hb:Agree p σ τ):rD τ esz p lo hi mx=rD σ esz p lo hi mx:=by
 cases p with
 | ow id m es =>
  unfold rD
  cases lo.getD (.i 0)<;>try rfl
  rename_i v; cases v<;>try rfl
  rename_i j z; cases j<;>try rfl
  simp only [hb id rfl]
 | rs id ver off len =>
  unfold rD
  cases lo.getD (.i 0)<;>try rfl
  rename_i v; cases v<;>try rfl
  rename_i j z; cases j<;>try rfl
  simp only [hb id rfl]
 | k u=>unfold rD; generalize lo.getD (.i 0)=q; cases u<;>cases q<;>first|rfl|(rename_i v; cases v<;>first|rfl|(rename_i j z; cases j<;>rfl))
 | sl t es=>unfold rD; generalize lo.getD (.i 0)=q; cases q<;>first|rfl|(rename_i v; cases v<;>first|rfl|(rename_i j z; cases j<;>rfl))
 | _=>rfl
theorem SJ {bars:List Nat} {env:Env} {σ τ:Sto} {x:IOp} {r:OpR} (hk:x.kind=1) (hb:∀ v,ev env x.base=some v→Agree v σ τ) (h:opE bars env σ x=some r):∃ v,r=.val v σ∧opE bars env τ x=some (.val v τ):=by
 cases x<;>simp only [IOp.kind] at hk<;>try (exact absurd hk (by decide))
 case load k a =>
  simp only [opE,Option.bind_eq_some_iff,Option.some.injEq] at h ⊢
  obtain ⟨p,hp,v,hv,rfl⟩:=h
  exact ⟨v,rfl,p,hp,v,by rw [Gf (hb p hp)]; exact hv,rfl⟩
 case loadb m k a =>
  simp only [opE,Option.bind_eq_some_iff] at h ⊢
  obtain ⟨p,hp,h⟩:=h
  split at h
  ·rename_i hst
   simp only [Option.bind_eq_some_iff,Option.some.injEq] at h
   obtain ⟨v,hv,rfl⟩:=h
   refine ⟨v,rfl,p,hp,?_⟩
   rw [if_pos hst]
   have hag:Agree p σ τ:=by
    unfold lk at hst
    split at hst
    ·rename_i u hu
     rw [beq_iff_eq] at hst
     intro id hid
     exact hb u hu id (hst.trans hid)
    ·cases hst
   rw [Gf hag,hv]; rfl
  ·cases h
 case slice esz x lo hi mx =>
  simp only [opE,Option.bind_eq_some_iff,Option.some.injEq] at h ⊢
  obtain ⟨p,hp,l,hl,hh,hhi,m,hm,v,hv,rfl⟩:=h
  exact ⟨v,rfl,p,hp,l,hl,hh,hhi,m,hm,v,by rw [J8 (hb p hp)]; exact hv,rfl⟩
 case iaddr arr esz x i =>
  simp only [IOp.base] at hb
  simp only [opE] at h ⊢
  cases hx:ev env x with
  | none=>rw [hx] at h; cases h
  | some p =>
   have hbp:=hb p hx
   rw [hx] at h
   cases hi:ev env i with
   | none=>rw [hi] at h; cases p<;>cases h
   | some q =>
    rw [hi] at h
    cases p with
    | rs id ver off len =>
     cases q<;>first|(cases h; done)|skip
     rename_i v
     cases v<;>first|(cases h; done)|skip
     rename_i j z
     cases j<;>first|(cases h; done)|skip
     change (if 0≤z∧z<len∧arr=none then _ else none)=_ at h
     change ∃ v,r=OpR.val v σ∧(if 0≤z∧z<len∧arr=none then (match τ[id]? with
      | some (.arr v k es)=>if v=ver∧k=esz then some (OpR.val (.pa id ver (off+z.toNat) 0) τ) else none
      | some (.pt v k es _)=>if v=ver∧k=esz then some (OpR.val (.pa id ver (off+z.toNat) 0) τ) else none
      | _=>none) else none)=some (.val v τ)
     rw [hbp id rfl]
     split at h
     ·rename_i hc
      rw [if_pos hc]
      split at h
      ·rename_i vv k es hs
       split at h
       ·rename_i hvk
        cases h
        exact ⟨_,rfl,by simp only [hs]; rw [if_pos hvk]⟩
       ·cases h
      ·rename_i vv k es zz hs
       split at h
       ·rename_i hvk
        cases h
        exact ⟨_,rfl,by simp only [hs]; rw [if_pos hvk]⟩
       ·cases h
      ·cases h
     ·cases h
    | _ =>
     try simp only at h ⊢
     repeat' (split at h)
     all_goals first
      | (cases h; done)
      | (cases h; exact ⟨_,rfl,by simp_all⟩)
      | (simp only [Option.bind_eq_some_iff] at h
         obtain ⟨e,he,h⟩:=h
         split at h
         ·cases h
          exact ⟨_,rfl,by simp_all⟩
         ·cases h)
 case lookup str zero m key ok =>
  simp only [IOp.base] at hb
  simp only [opE] at h ⊢
  cases hm:ev env m with
  | none=>rw [hm] at h; cases h
  | some p =>
   have hbp:=hb p hm
   rw [hm] at h
   cases hkk:ev env key with
   | none=>rw [hkk] at h; cases p<;>cases h
   | some q =>
    rw [hkk] at h
    cases p with
    | map id =>
     cases q with
     | k kv =>
      simp only [hbp id rfl] at h ⊢
      cases hs:σ[id]? with
      | none=>rw [hs] at h; cases h
      | some ob =>
       rw [hs] at h
       cases ob with
       | mp l =>
        simp only [Option.bind_eq_some_iff,Option.some.injEq] at h ⊢
        obtain ⟨y,hy,rfl⟩:=h
        exact ⟨_,rfl,y,hy,rfl⟩
       | _=>cases h
     | _=>cases h
    | _=>cases h
 case lookup2 kd zero m key ok =>
  simp only [IOp.base] at hb
  simp only [opE] at h ⊢
  cases hm:ev env m with
  | none=>rw [hm] at h; cases h
  | some p =>
   have hbp:=hb p hm
   rw [hm] at h
   cases hkk:ev env key with
   | none=>rw [hkk] at h; cases p<;>cases h
   | some q =>
    rw [hkk] at h
    cases p with
    | map id =>
     cases q with
     | agg kv =>
      simp only [hbp id rfl] at h ⊢
      simp only [Option.bind_eq_some_iff] at h ⊢
      obtain ⟨ks,hks,h⟩:=h
      cases hs:σ[id]? with
      | none=>rw [hs] at h; cases h
      | some ob =>
       rw [hs] at h
       cases ob with
       | mp l =>
        simp only [Option.bind_eq_some_iff,Option.some.injEq] at h ⊢
        obtain ⟨y,hy,rfl⟩:=h
        exact ⟨_,rfl,ks,hks,y,hy,rfl⟩
       | _=>cases h
     | _=>cases h
    | _=>cases h
theorem xM {env:Env} {σ:Sto} {f:Tgt} {vs:List PV} {r:OpR} (h:kR env σ f vs=some r):∃ g xs,r=.call g xs σ:=by
 cases f with
 | f n=>cases h; exact ⟨_,_,rfl⟩
 | v x =>
  simp only [kR] at h
  split at h
  ·split at h
   ·cases h; exact ⟨_,_,rfl⟩
   ·cases h
  ·cases h; exact ⟨_,_,rfl⟩
  ·split at h
   ·cases h; exact ⟨_,_,rfl⟩
   ·cases h
  ·cases h
 | m x tab =>
  simp only [kR] at h
  split at h
  ·simp only [Option.bind_eq_some_iff] at h
   obtain ⟨n,-,h⟩:=h
   split at h
   ·cases h; exact ⟨_,_,rfl⟩
   ·cases h
  ·cases h
section
variable {calls:bY} {bars:List Nat} {x:IOper} {env:Env} {σ τ σ':Sto} {v:PV}
theorem Ja (hk:x.op.kind=0) (h:dD calls bars x env σ=some (v,σ')):σ'=σ∧∀ τ,dD calls bars x env τ=some (v,τ):=by
 obtain ⟨f,hf⟩:=SI (bars:=bars) (env:=env) hk
 unfold dD at h
 split at h
 ·rename_i hw
  rw [hf] at h
  cases f with
  | none=>simp at h
  | some u =>
   simp at h
   obtain ⟨rfl,rfl⟩:=h
   exact ⟨rfl,fun τ=>by unfold dD; simp only [hw,hf,Option.map_some]⟩
 ·rename_i hw
  cases h
  exact ⟨rfl,fun τ=>by unfold dD; simp only [hw]⟩
 ·cases h
theorem wE (hk:x.op.kind=1) (hb:∀ v,ev env x.op.base=some v→Agree v σ τ) (h:dD calls bars x env σ=some (v,σ')):σ'=σ∧dD calls bars x env τ=some (v,τ):=by
 unfold dD at h
 split at h
 ·rename_i hw
  cases ho:opE bars env σ x.op with
  | none=>rw [ho] at h; cases h
  | some r =>
   obtain ⟨u,rfl,h2⟩:=SJ hk hb ho
   rw [ho] at h
   cases h
   exact ⟨rfl,by unfold dD; simp only [hw,h2]⟩
 ·rename_i hw
  cases h
  exact ⟨rfl,by unfold dD; simp only [hw]⟩
 ·cases h
theorem Jb (hk:x.op.kind=2) (h:dD calls bars x env σ=some (v,σ')):σ'=σ:=by
 obtain ⟨dst,op,guard⟩:=x
 cases op<;>simp only [IOp.kind] at hk<;>try (exact absurd hk (by decide))
 rotate_left
 ·unfold dD at h
  split at h
  ·split at h
   ·rename_i v0 σ0 ho
    obtain ⟨u,hu⟩:=F5 ho
    cases hu; cases h; rfl
   ·rename_i ho
    obtain ⟨u,hu⟩:=F5 ho
    cases hu
   ·cases h
  ·cases h; rfl
  ·cases h
 rename_i f xs
 unfold dD at h
 split at h
 ·simp only [opE] at h
  cases hv:evs env xs with
  | none=>rw [hv] at h; cases h
  | some vs =>
   rw [hv] at h
   simp only [Option.bind_some] at h
   cases hc:kR env σ f vs with
   | none=>rw [hc] at h; cases h
   | some r =>
    rw [hc] at h
    obtain ⟨g,ys,rfl⟩:=xM hc
    simp only at h
    split at h
    ·split at h
     ·cases h
     ·rename_i hq
      cases h
      exact Classical.not_not.1 fun hne=>hq (.inl ⟨rfl,hne⟩)
    ·cases h
 ·cases h; rfl
 ·cases h
theorem SK (hk:x.op.kind=5) (h:dD calls bars x env σ=some (v,σ')):∃ ext,σ'=σ++ext:=by
 obtain ⟨dst,op,guard⟩:=x
 cases op<;>simp only [IOp.kind] at hk<;>try (exact absurd hk (by decide))
 rename_i f xs
 unfold dD at h
 split at h
 ·simp only [opE] at h
  cases hv:evs env xs with
  | none=>rw [hv] at h; cases h
  | some vs =>
   rw [hv] at h
   simp only [Option.bind_some] at h
   cases hc:kR env σ f vs with
   | none=>rw [hc] at h; cases h
   | some r =>
    rw [hc] at h
    obtain ⟨g,ys,rfl⟩:=xM hc
    simp only at h
    split at h
    ·split at h
     ·cases h
     ·rename_i hq
      cases h
      exact Classical.not_not.1 fun hne=>hq (.inr (.inl ⟨rfl,hne⟩))
    ·cases h
 ·cases h; exact ⟨[],by simp⟩
 ·cases h
theorem SL (hk:x.op.kind=6) (h:dD calls bars x env σ=some (v,σ')) {n:Nat} (hn:n∈x.op.avs) {u:PV} (hu:bw env n=some u):Agree u σ σ':=by
 intro id hid
 obtain ⟨dst,op,guard⟩:=x
 cases op<;>simp only [IOp.kind] at hk<;>try (exact absurd hk (by decide))
 rename_i av f xs
 unfold dD at h
 split at h
 ·simp only [opE] at h
  cases hv:evs env xs with
  | none=>rw [hv] at h; cases h
  | some vs =>
   rw [hv] at h
   simp only [Option.bind_some] at h
   cases hc:kR env σ f vs with
   | none=>rw [hc] at h; cases h
   | some r =>
    rw [hc] at h
    obtain ⟨g,ys,rfl⟩:=xM hc
    simp only at h
    split at h
    ·split at h
     ·cases h
     ·rename_i hq
      cases h
      exact Classical.not_not.1 fun hne=>hq (.inr (.inr ⟨n,hn,u,id,hu,hid,hne⟩))
    ·cases h
 ·cases h; rfl
 ·cases h
theorem wF {σ':Sto} {n:Nat} {p u:PV} (h:mD bars σ n p u=some σ'):∃ id ob,top p=some id∧id<σ.length∧σ'=σ.set id ob∧∀ τ:Sto,τ[id]? = σ[id]?→mD bars τ n p u=some (τ.set id ob):=by
 unfold mD at h
 split at h
 ·rename_i hl
  split at h
  ·rename_i id off
   split at h
   ·rename_i cs hs
    split at h
    ·rename_i hb
     simp only [Option.bind_eq_some_iff,Option.some.injEq] at h
     obtain ⟨cs',hp,rfl⟩:=h
     exact ⟨id,_,rfl,(List.getElem?_eq_some_iff.1 hs).1,rfl,fun τ hτ=>by simp only [mD,if_pos hl,hτ,hs,if_pos hb,hp,Option.bind_some]⟩
    ·cases h
   ·cases h
  ·rename_i id ver i off
   split at h
   ·rename_i v k es hs
    split at h
    ·rename_i hb
     simp only [Option.bind_eq_some_iff,Option.some.injEq] at h
     obtain ⟨e,he,e',hp,rfl⟩:=h
     exact ⟨id,_,rfl,(List.getElem?_eq_some_iff.1 hs).1,rfl,fun τ hτ=>by simp only [mD,if_pos hl,hτ,hs,if_pos hb,he,hp,Option.bind_some]⟩
    ·cases h
   ·rename_i v k es z hs
    split at h
    ·rename_i hb
     simp only [Option.bind_eq_some_iff,Option.some.injEq] at h
     obtain ⟨e',hp,rfl⟩:=h
     exact ⟨id,_,rfl,(List.getElem?_eq_some_iff.1 hs).1,rfl,fun τ hτ=>by simp only [mD,if_pos hl,hτ,hs,if_pos hb,hp,Option.bind_some]⟩
    ·cases h
   ·cases h
  ·cases h
 ·cases h
theorem Qr (hk:x.op.kind=7) (h:dD calls bars x env σ=some (v,σ')):(σ'=σ∧∀ τ,dD calls bars x env τ=some (v,τ)) ∨
  ∃ id ob u,ev env x.op.base=some u∧top u=some id∧id<σ.length∧σ'=σ.set id ob∧∀ τ:Sto,τ[id]? = σ[id]?→dD calls bars x env τ=some (v,τ.set id ob):=by
 obtain ⟨dst,op,guard⟩:=x
 cases op<;>simp only [IOp.kind] at hk<;>try (exact absurd hk (by decide))
 rename_i b n a y
 unfold dD at h
 split at h
 ·rename_i hw
  simp only [opE] at h
  cases hp:ev env a with
  | none=>rw [hp] at h; cases h
  | some p =>
   rw [hp] at h
   simp only [Option.bind_some] at h
   by_cases hst:lk env b p=true
   ·rw [if_pos hst] at h
    cases hu:ev env y with
    | none=>rw [hu] at h; cases h
    | some u =>
     rw [hu] at h
     simp only [Option.bind_some] at h
     cases hs:mD bars σ n p u with
     | none=>rw [hs] at h; cases h
     | some σ1 =>
      rw [hs] at h
      cases h
      obtain ⟨id,ob,h1,h2,h3,h4⟩:=wF hs
      have hst':=hst
      unfold lk at hst'
      split at hst'
      ·rename_i q hq
       exact .inr ⟨id,ob,q,hq,by rw [beq_iff_eq] at hst'; rw [hst',h1],h2,h3,fun τ hτ=>by
        unfold dD
        simp only [hw,opE,hp,Option.bind_some,if_pos hst,hu,h4 τ hτ]⟩
      ·cases hst'
   ·rw [if_neg hst] at h; cases h
 ·rename_i hw
  cases h
  exact .inl ⟨rfl,fun τ=>by unfold dD; simp only [hw]⟩
 ·cases h
theorem rI {p:PV} {i:Nat} (hi:top p=some i):∀ {l:List Nat},gy env l p=true→∀ n∈l,∀ u,bw env n=some u→top u≠some i
 | [],_,n,hn,_,_=>by cases hn
 | m::r,h,n,hn,u,hu=>by
  simp only [gy,Bool.and_eq_true] at h
  rcases List.mem_cons.1 hn with rfl|hn
  ·rw [hu] at h
   simp only [bne_iff_ne] at h
   rw [← hi]; exact h.1
  ·exact rI hi h.2 n hn u hu
theorem LG (hk:x.op.kind=8) (h:dD calls bars x env σ=some (v,σ')):(σ'=σ∧∀ τ,dD calls bars x env τ=some (v,τ)) ∨
  ∃ id ob,id<σ.length∧σ'=σ.set id ob∧(∀ n∈x.op.avs,∀ u,bw env n=some u→top u≠some id)∧∀ τ:Sto,τ[id]? = σ[id]?→dD calls bars x env τ=some (v,τ.set id ob):=by
 obtain ⟨dst,op,guard⟩:=x
 cases op<;>simp only [IOp.kind] at hk<;>try (exact absurd hk (by decide))
 ·rename_i av esz x y
  unfold dD at h
  split at h
  ·rename_i hw
   simp only [opE] at h
   cases hp:ev env x with
   | none=>rw [hp] at h; cases h
   | some p =>
    rw [hp] at h
    simp only [Option.bind_some] at h
    by_cases hst:gy env av p=true
    ·rw [if_pos hst] at h
     cases hu:ev env y with
     | none=>rw [hu] at h; cases h
     | some u =>
      rw [hu] at h
      simp only [Option.bind_some] at h
      cases hs:tY esz σ p u with
      | none=>rw [hs] at h; cases h
      | some q =>
       rw [hs] at h
       obtain ⟨q1,q2⟩:=q
       cases h
       rcases F6 hs with ⟨h1,h2⟩|⟨id,ob,h1,h2,h3,h4⟩
       ·simp only at h1
        subst h1
        exact .inl ⟨rfl,fun τ=>by
         unfold dD
         simp only [hw,opE,hp,Option.bind_some,if_pos hst,hu,h2 τ]⟩
       ·exact .inr ⟨id,ob,h2,h3,rI h1 hst,fun τ hτ=>by
         unfold dD
         simp only [hw,opE,hp,Option.bind_some,if_pos hst,hu,h4 τ hτ]⟩
    ·rw [if_neg hst] at h; cases h
  ·rename_i hw
   cases h
   exact .inl ⟨rfl,fun τ=>by unfold dD; simp only [hw]⟩
  ·cases h
 rename_i av n a y
 unfold dD at h
 split at h
 ·rename_i hw
  simp only [opE] at h
  cases hp:ev env a with
  | none=>rw [hp] at h; cases h
  | some p =>
   rw [hp] at h
   simp only [Option.bind_some] at h
   by_cases hst:gy env av p=true
   ·rw [if_pos hst] at h
    cases hu:ev env y with
    | none=>rw [hu] at h; cases h
    | some u =>
     rw [hu] at h
     simp only [Option.bind_some] at h
     cases hs:mD bars σ n p u with
     | none=>rw [hs] at h; cases h
     | some σ1 =>
      rw [hs] at h
      cases h
      obtain ⟨id,ob,h1,h2,h3,h4⟩:=wF hs
      exact .inr ⟨id,ob,h2,h3,rI h1 hst,fun τ hτ=>by
       unfold dD
       simp only [hw,opE,hp,Option.bind_some,if_pos hst,hu,h4 τ hτ]⟩
   ·rw [if_neg hst] at h; cases h
 ·rename_i hw
  cases h
  exact .inl ⟨rfl,fun τ=>by unfold dD; simp only [hw]⟩
 ·cases h
theorem EI (hk:x.op.kind=8) (h:dD calls bars x env σ=some (v,σ')) {n:Nat} (hn:n∈x.op.avs) {u:PV} (hu:bw env n=some u):Agree u σ σ':=by
 intro id hid
 rcases LG hk h with ⟨rfl,-⟩|⟨j,ob,-,rfl,h1,-⟩
 ·rfl
 ·have:j≠id:=fun e=>h1 n hn u hu (by rw [hid,e])
  simp [List.getElem?_set,this]
theorem LH {x:IOp} {r:OpR} {ext:Sto} (hk:x.kind=1) (h:opE bars env σ x=some r):∃ v,r=.val v σ∧opE bars env (σ++ext) x=some (.val v (σ++ext)):=by
 have hg:∀ {id:Nat} {ob:Ob},σ[id]? = some ob→(σ++ext)[id]? = some ob:=fun {id ob} h=>by
  rw [List.getElem?_append_left (List.getElem?_eq_some_iff.1 h).1]; exact h
 cases x<;>simp only [IOp.kind] at hk<;>try (exact absurd hk (by decide))
 case load k a =>
  simp only [opE,Option.bind_eq_some_iff,Option.some.injEq] at h ⊢
  obtain ⟨p,hp,v,hv,rfl⟩:=h
  refine ⟨v,rfl,p,hp,v,?_,rfl⟩
  unfold qg at hv ⊢
  split at hv
  ·split at hv
   ·rename_i hs; simp only [hg hs]; exact hv
   ·cases hv
  ·split at hv
   ·rename_i hs; simp only [hg hs]; exact hv
   ·cases hv
  ·exact hv
  ·cases hv
 case loadb m k a =>
  simp only [opE,Option.bind_eq_some_iff] at h ⊢
  obtain ⟨p,hp,h⟩:=h
  split at h
  ·rename_i hst
   simp only [Option.bind_eq_some_iff,Option.some.injEq] at h
   obtain ⟨v,hv,rfl⟩:=h
   refine ⟨v,rfl,p,hp,?_⟩
   rw [if_pos hst]
   have hv':qg (σ++ext) k p=some v:=by
    unfold qg at hv ⊢
    split at hv
    ·split at hv
     ·rename_i hs; simp only [hg hs]; exact hv
     ·cases hv
    ·split at hv
     ·rename_i hs; simp only [hg hs]; exact hv
     ·cases hv
    ·exact hv
    ·cases hv
   rw [hv']; rfl
  ·cases h
 case slice esz x lo hi mx =>
  simp only [opE,Option.bind_eq_some_iff,Option.some.injEq] at h ⊢
  obtain ⟨p,hp,l,hl,hh,hhi,m,hm,v,hv,rfl⟩:=h
  refine ⟨v,rfl,p,hp,l,hl,hh,hhi,m,hm,v,?_,rfl⟩
  unfold rD at hv ⊢
  split at hv
  ·exact hv
  ·exact hv
  ·split at hv
   ·split at hv
    ·rename_i hc
     rw [if_pos hc]
     split at hv
     ·rename_i hs; simp only [hg hs]; exact hv
     ·exact hv
     ·cases hv
    ·cases hv
   ·cases hv
  ·split at hv
   ·rename_i hq hs; simp only [hq,hg hs]; exact hv
   ·cases hv
  ·cases hv
 case iaddr arr esz x i =>
  simp only [opE] at h ⊢
  split at h
  ·split at h
   ·split at h
    ·rename_i hc
     cases h
     exact ⟨_,rfl,by simp only [if_pos hc]⟩
    ·cases h
   ·cases h
  ·split at h
   ·rename_i hc
    simp only [Option.bind_eq_some_iff] at h
    obtain ⟨e,he,h⟩:=h
    split at h
    ·rename_i hc2; cases h; exact ⟨_,rfl,by simp only [if_pos hc,he,Option.bind_some,if_pos hc2]⟩
    ·cases h
   ·cases h
  ·split at h
   ·rename_i hc
    simp only [Option.bind_eq_some_iff] at h
    obtain ⟨e,he,h⟩:=h
    split at h
    ·rename_i hc2; cases h; exact ⟨_,rfl,by simp only [if_pos hc,he,Option.bind_some,if_pos hc2]⟩
    ·cases h
   ·cases h
  ·split at h
   ·rename_i hc
    split at h
    ·rename_i hs
     split at h
     ·rename_i hc2
      cases h
      exact ⟨_,rfl,by simp only [if_pos hc,hg hs,if_pos hc2]⟩
     ·cases h
    ·rename_i hs
     split at h
     ·rename_i hc2
      cases h
      exact ⟨_,rfl,by simp only [if_pos hc,hg hs,if_pos hc2]⟩
     ·cases h
    ·cases h
   ·cases h
  ·cases h
 case lookup str zero m key ok =>
  simp only [opE] at h ⊢
  split at h
  ·split at h
   ·rename_i hs
    simp only [Option.bind_eq_some_iff,Option.some.injEq] at h
    obtain ⟨y,hy,rfl⟩:=h
    exact ⟨_,rfl,by simp only [hg hs,hy,Option.bind_some]⟩
   ·cases h
  ·cases h
 case lookup2 kd zero m key ok =>
  simp only [opE] at h ⊢
  split at h
  ·simp only [Option.bind_eq_some_iff] at h
   obtain ⟨ks,hks,h⟩:=h
   split at h
   ·rename_i hs
    simp only [Option.bind_eq_some_iff,Option.some.injEq] at h
    obtain ⟨y,hy,rfl⟩:=h
    exact ⟨_,rfl,by simp only [hks,hg hs,hy,Option.bind_some]⟩
   ·cases h
  ·cases h
theorem uW {ext:Sto} (hk:x.op.kind=1) (h:dD calls bars x env σ=some (v,σ')):σ'=σ∧dD calls bars x env (σ++ext)=some (v,σ++ext):=by
 unfold dD at h
 split at h
 ·rename_i hw
  cases ho:opE bars env σ x.op with
  | none=>rw [ho] at h; cases h
  | some r =>
   obtain ⟨u,rfl,h2⟩:=LH (ext:=ext) hk ho
   rw [ho] at h
   cases h
   exact ⟨rfl,by unfold dD; simp only [hw,h2]⟩
 ·rename_i hw
  cases h
  exact ⟨rfl,by unfold dD; simp only [hw]⟩
 ·cases h
theorem P9 {zero:List PV} (ho:x.op=.alloc zero) (hg:x.guard=none):dD calls bars x env σ=some (.ptr σ.length 0,σ++[.var zero]):=by
 unfold dD
 rw [hg,ho]
 rfl
end
end Go.Ev

namespace Go.Ev
variable [CodeRel]
def EqAll (e e':Env):Prop:=∀ s,bw e s=bw e' s
theorem EqAll.refl (e:Env):EqAll e e:=fun _=>rfl
theorem EqAll.symm {e e':Env} (h:EqAll e e'):EqAll e' e:=fun s=>(h s).symm
theorem EqAll.trans {e e' e'':Env} (h:EqAll e e') (h':EqAll e' e''):EqAll e e'':=fun s=>(h s).trans (h' s)
theorem EqAll.put {e e':Env} (h:EqAll e e') (d:Option Nat) (v:PV):EqAll (d7 e d v) (d7 e' d v):=by
 cases d with
 | none=>exact h
 | some d=>intro s; simp only [d7,bw]; split<;>first|rfl|exact h s
theorem LI (e:Env) {d d':Option Nat} (v v':PV) (h:∀ x,d=some x→d'≠some x):EqAll (d7 (d7 e d v) d' v') (d7 (d7 e d' v') d v):=by
 cases d with
 | none=>cases d'<;>exact EqAll.refl _
 | some d =>
  cases d' with
  | none=>exact EqAll.refl _
  | some d' =>
   have hne:d'≠d:=fun e=>h d rfl (by rw [e])
   intro s
   simp only [d7,bw]
   by_cases h1:d'=s
   ·subst h1
    rw [if_pos rfl,if_neg (Ne.symm hne),if_pos rfl]
   ·by_cases h2:d=s
    ·subst h2; simp [h1]
    ·simp [h1,h2]
theorem A7 {e:Env} {d:Option Nat} {v:PV} {s:Nat} (h:d≠some s):bw (d7 e d v) s=bw e s:=by
 cases d with
 | none=>rfl
 | some d=>simp only [d7,bw]; rw [if_neg (fun e=>h (by rw [e]))]
theorem xN {calls:bY} {bars:List Nat}:∀ {xs:List IOper} {e e' eF:Env} {σ σF:Sto},EqAll e e'→bD calls bars xs e σ=some (.norm,eF,σF)→∃ eF',bD calls bars xs e' σ=some (.norm,eF',σF)∧EqAll eF eF'
 | [],e,e',eF,σ,σF,h,hr=>by
  simp only [bD,Option.some.injEq,Prod.mk.injEq,true_and] at hr
  obtain ⟨rfl,rfl⟩:=hr
  exact ⟨e',rfl,h⟩
 | x::r,e,e',eF,σ,σF,h,hr=>by
  simp only [bD] at hr ⊢
  cases h1:cL calls bars x e σ with
  | none=>rw [h1] at hr; cases hr
  | some r1 =>
   rw [h1] at hr
   obtain ⟨e1,env1,σ1⟩:=r1
   cases e1 with
   | norm =>
    obtain ⟨v,h2,rfl⟩:=sQ h1
    have h3:dD calls bars x e' σ=some (v,σ1):=by rw [← uU (e:=e) (fun s _=>h s)]; exact h2
    rw [si h3]
    exact xN (h.put _ _) hr
   | exit id=>cases hr
   | ret=>cases hr
   | pan v=>cases hr
def A8 (x y:IOper):Bool:=(x.op.kind != 1 && x.op.kind != 7) || (y.op.kind != 6 && y.op.kind != 8) || (match x.op.base with|.t n=>y.op.avs.contains n|.c _=>false)
def apart (x y:IOper):Bool:=A8 x y && (match x.dst with|some d=>!(y.use.contains d) && y.dst != some d|none=>true) && (match y.dst with|some d=>!(x.use.contains d)|none=>true)
theorem A9 {x y:IOper} (h:apart x y=true):(∀ d,x.dst=some d→d ∉ y.use)∧(∀ d,x.dst=some d→y.dst≠some d)∧(∀ d,y.dst=some d→d ∉ x.use)∧A8 x y=true:=by
 unfold apart at h
 rw [Bool.and_assoc,Bool.and_eq_true] at h
 obtain ⟨h0,h⟩:=h
 refine ⟨fun d hd=>?_,fun d hd=>?_,fun d hd=>?_,h0⟩<;>simp [hd] at h
 ·exact h.1.1
 ·exact h.1.2
 ·exact h.2
def sR (a b:Nat):Bool:=a == 0 || b == 0 || b == 3 || ((a == 1 || a == 2) && (b == 1 || b == 2)) || (a == 3 && b == 1) || (a == 1 && b == 5) || (a == 1 && b == 6) || (a == 1 && b == 8) || (a == 7 && b == 8)
theorem wG {e:Env} {d:Option Nat} {v:PV} {l:List Nat} (h:∀ x,d=some x→x ∉ l):EqOn l (d7 e d v) e :=
 fun s hs=>A7 fun hd=>h s hd hs
section
variable {calls:bY} {bars:List Nat}
theorem LJ {x:IOp}:∀ s∈x.base.use,s∈x.use:=by
 intro s hs
 cases x<;>simp only [IOp.base,IOp.use,Opd.use,List.not_mem_nil,List.mem_append] at hs ⊢
 ·exact hs
 ·exact .inl (.inl (.inl hs))
 ·exact .inl hs
 ·exact .inl hs
 ·exact .inl hs
 ·exact .inl hs
 ·exact .inl hs
theorem Qs {y:IOper} {n:Nat} (hy3:y.op.kind≠3):∀ {c1:List IOper} {c2:List IOper} {env envF:Env} {σ σF:Sto},(∀ x∈c1,sR x.op.kind y.op.kind=true∧apart x y=true)→(∀ x∈c1,x.op.kind=3→x.guard=none) →
  (y.op.kind=1→n≤σ.length∧∀ v,ev env y.op.base=some v→below n v=true)→bD calls bars (c1++y::c2) env σ=some (.norm,envF,σF) →
  ∃ v σ1 envF',dD calls bars y env σ=some (v,σ1)∧bD calls bars (c1++c2) (d7 env y.dst v) σ1=some (.norm,envF',σF)∧EqAll envF envF'
 | [],c2,env,envF,σ,σF,_,_,_,h=>by
  simp only [List.nil_append,bD] at h ⊢
  cases h1:cL calls bars y env σ with
  | none=>rw [h1] at h; cases h
  | some r1 =>
   rw [h1] at h
   obtain ⟨e1,env1,σ1⟩:=r1
   cases e1 with
   | norm =>
    obtain ⟨v,h2,rfl⟩:=sQ h1
    exact ⟨v,σ1,envF,h2,h,EqAll.refl _⟩
   | exit id=>cases h
   | ret=>cases h
   | pan v=>cases h
 | x::c1,c2,env,envF,σ,σF,hc,hA,hb,h=>by
  simp only [List.cons_append,bD] at h
  cases h1:cL calls bars x env σ with
  | none=>rw [h1] at h; cases h
  | some r1 =>
   rw [h1] at h
   obtain ⟨e1,env1,σx⟩:=r1
   cases e1 with
   | exit id=>cases h
   | ret=>cases h
   | pan v=>cases h
   | norm =>
    obtain ⟨vx,hx,rfl⟩:=sQ h1
    obtain ⟨hcomp,hap⟩:=hc x (by simp)
    obtain ⟨ap1,ap2,ap3,ap4⟩:=A9 hap
    have hbase:ev (d7 env x.dst vx) y.op.base=ev env y.op.base:=bj (wG fun d hd hs=>ap1 d hd (by simp only [IOper.use,List.mem_append]; exact .inl (LJ d hs)))
    have fin:∀ {v:PV} {σ1 σ1':Sto} {envF':Env},bD calls bars (c1++c2) (d7 (d7 env x.dst vx) y.dst v) σ1'=some (.norm,envF',σF)→EqAll envF envF'→dD calls bars y env σ=some (v,σ1)→dD calls bars x (d7 env y.dst v) σ1=some (vx,σ1') →
      ∃ v σ1 envF',dD calls bars y env σ=some (v,σ1)∧bD calls bars (x::c1++c2) (d7 env y.dst v) σ1=some (.norm,envF',σF)∧EqAll envF envF':=by
     intro v σ1 σ1' envF' g1 g2 g3 g4
     obtain ⟨envF'',g5,g6⟩:=xN (LI env vx v (fun d hd=>ap2 d hd)) g1
     refine ⟨v,σ1,envF'',g3,?_,g2.trans g6⟩
     simp only [List.cons_append,bD]
     rw [si g4]
     exact g5
    have xput:∀ (v:PV) (τ:Sto),dD calls bars x (d7 env y.dst v) τ=dD calls bars x env τ:=fun v τ=>uU (wG ap3)
    have hlen:y.op.kind=1→n≤σx.length∧∀ v,ev (d7 env x.dst vx) y.op.base=some v→below n v=true:=by
     intro hk
     obtain ⟨h2,h3⟩:=hb hk
     refine ⟨?_,by rw [hbase]; exact h3⟩
     rw [hk] at hcomp
     simp only [sR,Bool.or_eq_true,Bool.and_eq_true,beq_iff_eq] at hcomp
     rcases hcomp with (((((((hc|hc)|hc)|⟨hc|hc,-⟩)|⟨hc,-⟩)|⟨-,hc⟩)|⟨-,hc⟩)|⟨-,hc⟩)|⟨-,hc⟩
     ·rw [(Ja hc hx).1]; exact h2
     ·omega
     ·omega
     ·rw [(wE hc (fun v _=>Agree.refl v σ) hx).1]; exact h2
     ·rw [Jb hc hx]; exact h2
     ·obtain ⟨zero,hz⟩:∃ zero,x.op=.alloc zero:=by
       cases ho:x.op<;>rw [ho] at hc<;>simp [IOp.kind] at hc
       exact ⟨_,rfl⟩
      rw [P9 hz (hA x (by simp) hc)] at hx
      cases hx
      simp; omega
     ·omega
     ·omega
     ·omega
     ·omega
    obtain ⟨v,σ1',envF',g1,g2,g3⟩:=Qs (c1:=c1) (c2:=c2) hy3 (fun z hz=>hc z (by simp [hz])) (fun z hz=>hA z (by simp [hz])) hlen h
    have g1':dD calls bars y env σx=some (v,σ1'):=by rw [← uU (e:=d7 env x.dst vx) (wG ap1)]; exact g1
    simp only [sR,Bool.or_eq_true,Bool.and_eq_true,beq_iff_eq] at hcomp
    rcases hcomp with (((((((hc0|hc0)|hc0)|⟨hcx,hcy⟩)|⟨hc3,hc1⟩)|⟨hcr,hcg⟩)|⟨hcr,hcm⟩)|⟨hcr,hcm⟩)|⟨hcr,hcm⟩
    ·obtain ⟨rfl,hall⟩:=Ja hc0 hx
     exact fin g2 g3 g1' (by rw [xput]; exact hall σ1')
    ·obtain ⟨rfl,hall⟩:=Ja hc0 g1'
     exact fin g2 g3 (hall σ) (by rw [xput]; exact hx)
    ·exact absurd hc0 hy3
    ·have ex:σx=σ:=by
      rcases hcx with hcx|hcx
      ·exact (wE hcx (fun v _=>Agree.refl v σ) hx).1
      ·exact Jb hcx hx
     subst ex
     have ey:σ1'=σx:=by
      rcases hcy with hcy|hcy
      ·exact (wE hcy (fun v _=>Agree.refl v σx) g1').1
      ·exact Jb hcy g1'
     subst ey
     exact fin g2 g3 g1' (by rw [xput]; exact hx)
    ·obtain ⟨zero,hz⟩:∃ zero,x.op=.alloc zero:=by
      cases ho:x.op<;>rw [ho] at hc3<;>simp [IOp.kind] at hc3
      exact ⟨_,rfl⟩
     have hxx:=hx
     rw [P9 hz (hA x (by simp) hc3)] at hxx
     cases hxx
     obtain ⟨h2,h3⟩:=hb hc1
     obtain ⟨rfl,h4⟩:=wE (τ:=σ) hc1 (fun u hu=>Agree.of (h3 u hu) fun i hi=>by rw [List.getElem?_append_left (by omega)]) g1'
     exact fin g2 g3 h4 (by rw [xput]; exact hx)
    ·obtain ⟨rfl,-⟩:=uW (ext:=[]) hcr hx
     obtain ⟨ext,rfl⟩:=SK hcg g1'
     exact fin g2 g3 g1' (by rw [xput]; exact (uW hcr hx).2)
    ·obtain ⟨rfl,-⟩:=uW (ext:=[]) hcr hx
     have hag:∀ u,ev env x.op.base=some u→Agree u σx σ1':=by
      intro u hu
      unfold A8 at ap4
      rw [hcr,hcm] at ap4
      simp only [bne_self_eq_false,Bool.false_or,Bool.false_and] at ap4
      split at ap4
      ·rename_i m hm
       rw [hm] at hu
       exact SL hcm g1' (by simpa using ap4) hu
      ·cases ap4
     exact fin g2 g3 g1' (by rw [xput]; exact (wE hcr hag hx).2)
    ·obtain ⟨rfl,-⟩:=uW (ext:=[]) hcr hx
     have hag:∀ u,ev env x.op.base=some u→Agree u σx σ1':=by
      intro u hu
      unfold A8 at ap4
      rw [hcr,hcm] at ap4
      simp only [bne_self_eq_false,Bool.false_or,Bool.false_and,Bool.and_false] at ap4
      split at ap4
      ·rename_i m hm
       rw [hm] at hu
       exact EI hcm g1' (by simpa using ap4) hu
      ·cases ap4
     exact fin g2 g3 g1' (by rw [xput]; exact (wE hcr hag hx).2)
    ·rcases Qr hcr hx with ⟨rfl,hall⟩|⟨ix,obx,u,hu,htu,hlx,rfl,hallx⟩
     ·exact fin g2 g3 g1' (by rw [xput]; exact hall _)
     ·rcases LG hcm g1' with ⟨rfl,hall⟩|⟨iy,oby,hly,rfl,hav,hally⟩
      ·exact fin g2 g3 (hall σ) (by rw [xput]; exact hx)
      ·have hne:ix≠iy:=by
        unfold A8 at ap4
        rw [hcr,hcm] at ap4
        simp only [bne_self_eq_false,Bool.false_or,Bool.false_and,Bool.and_false] at ap4
        split at ap4
        ·rename_i m hm
         rw [hm] at hu
         intro e
         exact hav m (by simpa using ap4) u hu (by rw [htu,e])
        ·cases ap4
       refine fin g2 g3 (hally σ (by simp [List.getElem?_set,hne])) ?_
       rw [xput,hallx _ (by simp [List.getElem?_set,Ne.symm hne]),List.set_comm _ _ (Ne.symm hne)]
end
end Go.Ev

namespace Go.Ev
variable [CodeRel]
structure DEl where
 i:Nat
 a:Option Nat
 x:IOper
def gl (listed:Array Bool) (i:Nat):Bool:=listed.getD i true
def left (L:List DEl) (listed:Array Bool):List DEl:=L.filter fun e=>!gl listed e.i
theorem mem_ready {ops:Array Oper} {listed:Array Bool} {i:Nat}:i∈Region.ready .any ops listed ↔ i<ops.size∧gl listed i=false∧∃ o,ops[i]? = some o∧∀ e∈o.after.toList,Region.binds .any e=true→listed.getD e.on false=true:=by
 unfold Region.ready
 simp only [List.mem_filter,List.mem_range,Bool.and_eq_true,Bool.not_eq_true',gl]
 constructor
 ·rintro ⟨h1,h2,h3⟩
  refine ⟨h1,h2,ops[i],Array.getElem?_eq_getElem h1,fun e he hb=>?_⟩
  rw [Array.getElem?_eq_getElem h1] at h3
  simp only [Option.map_some,Option.getD_some,Array.all_eq_true'] at h3
  have:=h3 e (Array.mem_toList_iff.1 he)
  simpa [hb] using this
 ·rintro ⟨h1,h2,o,ho,h3⟩
  refine ⟨h1,h2,?_⟩
  rw [ho]
  simp only [Option.map_some,Option.getD_some,Array.all_eq_true']
  intro e he
  cases hb:Region.binds .any e with
  | false=>rfl
  | true=>simpa using h3 e (Array.mem_toList_iff.2 he) hb
theorem zd {ops:Array Oper} {L:List DEl} {listed:Array Bool} (hsz:listed.size=ops.size) (hL:∀ e∈L,e.i<ops.size) (hback:∀ i o,ops[i]? = some o→∀ e∈o.after.toList,Region.binds .any e=true→e.on<i) (h:Region.ready .any ops listed=[]):left L listed=[]∧∀ i,i<ops.size→gl listed i=true:=by
 have hall:∀ i,i<ops.size→gl listed i=true:=by
  intro i
  induction i using Nat.strongRecOn with
  | _ i ih =>
   intro hi
   cases hg:gl listed i with
   | true=>rfl
   | false =>
    exfalso
    have:i∈Region.ready .any ops listed:=mem_ready.2 ⟨hi,hg,ops[i],Array.getElem?_eq_getElem hi,fun e he hb=>by
     have hlt:=hback i _ (Array.getElem?_eq_getElem hi) e he hb
     have:=ih e.on hlt (by omega)
     unfold gl at this
     rw [Array.getD_eq_getD_getElem?] at this ⊢
     rw [Array.getElem?_eq_getElem (by omega)] at this ⊢
     simpa using this⟩
    rw [h] at this; cases this
 refine ⟨?_,hall⟩
 unfold left
 rw [List.filter_eq_nil_iff]
 intro e he
 simp [hall e.i (hL e he)]
theorem mI {listed:Array Bool} {i j:Nat} (hi:i<listed.size):gl (listed.setIfInBounds i true) j=(gl listed j || decide (i=j)):=by
 unfold gl
 rw [Array.getD_eq_getD_getElem?,Array.getD_eq_getD_getElem?]
 by_cases h:i=j
 ·subst h; rw [Array.getElem?_setIfInBounds_self_of_lt hi]; simp
 ·rw [Array.getElem?_setIfInBounds_ne h]; simp [h]
theorem Gg {L:List DEl} {listed:Array Bool} {c1 c2:List DEl} {e:DEl} (hi:e.i<listed.size) (hnd:(L.map (·.i)).Nodup) (h:left L listed=c1++e::c2):left L (listed.setIfInBounds e.i true)=c1++c2:=by
 have h1:left L (listed.setIfInBounds e.i true)=(left L listed).filter fun d=>!decide (e.i=d.i):=by
  unfold left
  rw [List.filter_filter]
  congr 1
  funext d
  rw [mI hi]
  cases gl listed d.i<;>cases decide (e.i=d.i)<;>rfl
 have hnd':((left L listed).map (·.i)).Nodup:=(List.Sublist.map _ List.filter_sublist).nodup hnd
 rw [h1,h] at *
 simp only [List.map_append,List.map_cons,List.nodup_append,List.nodup_cons,List.mem_map,List.mem_cons] at hnd'
 obtain ⟨n1,⟨n2,n3⟩,n4⟩:=hnd'
 rw [List.filter_append,List.filter_cons]
 simp only [decide_true,Bool.not_true,Bool.false_eq_true,if_false]
 congr 1
 ·rw [List.filter_eq_self]
  intro d hd
  have:=n4 d.i ⟨d,hd,rfl⟩ e.i (.inl rfl)
  simp [Ne.symm this]
 ·rw [List.filter_eq_self]
  intro d hd
  have:e.i≠d.i:=fun he=>n2 ⟨d,hd,he.symm⟩
  simp [this]
theorem J9 {L:List DEl} {listed:Array Bool} {i:Nat} (hi:i<listed.size) (h:∀ e∈L,e.i≠i):left L (listed.setIfInBounds i true)=left L listed:=by
 unfold left
 apply List.filter_congr
 intro d hd
 rw [mI hi]
 simp [Ne.symm (h d hd)]
def cnt (n:Nat) (listed:Array Bool):Nat:=(List.range n).countP fun i=>!gl listed i
theorem ze {p:Nat→Bool} {i:Nat} (hp:p i=true):∀ l:List Nat,(l.countP fun j=>p j && !decide (i=j))≤l.countP p∧(i∈l→(l.countP fun j=>p j && !decide (i=j))+1≤l.countP p)
 | []=>by simp
 | j::r=>by
  have ih:=ze hp r
  by_cases hij:i=j
  ·subst hij
   have e1:((i::r).countP fun j=>p j && !decide (i=j))=(r.countP fun j=>p j && !decide (i=j)):=List.countP_cons_of_neg (by simp)
   have e2:(i::r).countP p=r.countP p+1:=List.countP_cons_of_pos hp
   rw [e1,e2]
   exact ⟨by have:=ih.1; omega,fun _=>by have:=ih.1; omega⟩
  ·have hd:(p j && !decide (i=j))=p j:=by simp [hij]
   have e1:((j::r).countP fun j=>p j && !decide (i=j))=(r.countP fun j=>p j && !decide (i=j))+(if p j then 1 else 0):=by rw [List.countP_cons,hd]
   have e2:(j::r).countP p=r.countP p+(if p j then 1 else 0):=List.countP_cons
   rw [e1,e2]
   refine ⟨by have:=ih.1; omega,fun hm=>?_⟩
   have hm':i∈r:=by
    cases hm with
    | head=>exact absurd rfl hij
    | tail _ h=>exact h
   have:=ih.2 hm'
   omega
theorem OG {n i:Nat} {listed:Array Bool} (hi:i<listed.size) (hn:i<n) (hg:gl listed i=false):cnt n (listed.setIfInBounds i true)+1≤cnt n listed:=by
 unfold cnt
 have hf:(fun j=>!gl (listed.setIfInBounds i true) j)=fun j=>(!gl listed j) && !decide (i=j):=by
  funext j; rw [mI hi,Bool.not_or]
 rw [hf]
 exact (ze (p:=fun j=>!gl listed j) (by simp [hg]) _).2 (List.mem_range.2 hn)
theorem HY {ops:Array Oper} {listed:Array Bool} (h:cnt ops.size listed=0):Region.ready .any ops listed=[]:=by
 cases hr:Region.ready .any ops listed with
 | nil=>rfl
 | cons i r =>
  exfalso
  have hm:i∈Region.ready .any ops listed:=by rw [hr]; simp
  obtain ⟨h1,h2,-⟩:=mem_ready.1 hm
  unfold cnt at h
  rw [List.countP_eq_zero] at h
  have:=h i (List.mem_range.2 h1)
  rw [h2] at this
  simp at this
theorem INV.adopt {bars:List Nat} {κ:Kn} {σ:Sto} {w:World} (h:INV bars κ σ w) {cs:List PV} {c:Array Value} {T:TypeId} {B:Nat} (hB:w.heap[B]? = some (.cells c T (0,0))) (hno:∀ i,own κ σ i≠some B) (hM:∀ o,κ.M B o=none) (hr:RelL κ cs c.toList) (h1:∀ v∈c.toList,v.oneCell'=true) (hb:below.belowAll σ.length cs=true) :
  INV bars (κ.at σ.length B) (σ++[.var cs]) w:=by
 have hext:=Ext.at κ σ.length B
 have hgen:∀ i,i<σ.length→(κ.at σ.length B).gen i=κ.gen i:=fun i hi=>by simp [Kn.at,Nat.ne_of_lt hi]
 have hget:∀ i ob,(σ++[Ob.var cs])[i]? = some ob→(i<σ.length∧σ[i]? = some ob)∨(i=σ.length∧ob=.var cs):=by
  intro i ob hi
  rcases Nat.lt_or_ge i σ.length with hlt|hge
  ·rw [List.getElem?_append_left hlt] at hi; exact .inl ⟨hlt,hi⟩
  ·rw [List.getElem?_append_right hge] at hi
   obtain hz|hz:i - σ.length=0∨0<i - σ.length:=by omega
   ·rw [hz] at hi; simp at hi; exact .inr ⟨by omega,hi.symm⟩
   ·rw [List.getElem?_eq_none (by simp; omega)] at hi; cases hi
 have hown:∀ i b,own (κ.at σ.length B) (σ++[.var cs]) i=some b→(i<σ.length∧own κ σ i=some b)∨(i=σ.length∧b=B):=by
  intro i b hi
  cases hs:(σ++[Ob.var cs])[i]? with
  | none=>unfold own at hi; rw [hs] at hi; cases hi
  | some ob =>
   rw [dx hs] at hi
   rcases hget i ob hs with ⟨hlt,hs'⟩|⟨rfl,rfl⟩
   ·refine .inl ⟨hlt,?_⟩
    rw [dx hs']
    cases ob<;>first|(simpa [ee,Kn.at,Nat.ne_of_lt hlt] using hi)|(simp [ee] at hi)
   ·simp [ee,Kn.at] at hi; exact .inr ⟨rfl,hi.symm⟩
 refine ⟨fun i ob hi=>?_,fun i j b hi hj=>?_,h.mem,h.cap,fun i ob hi=>?_,fun n hn=>?_⟩
 ·rcases hget i ob hi with ⟨hlt,hs⟩|⟨rfl,rfl⟩
  ·exact obRel.keep hext hlt (hgen i hlt) (h.wf i ob hs) (fun b hb'=>⟨rfl,fun o=>rfl⟩) (h.obs i ob hs)
  ·refine ⟨by simp [Kn.at],by simp [Kn.at],⟨c,T,by simpa [Kn.at] using hB,RelL.mono hext _ _ hb hr,h1⟩,fun o=>?_⟩
   simp only [Kn.at,if_true]
   exact hM o
 ·rcases hown i b hi with ⟨hlt,h2⟩|⟨hi1,hi2⟩<;>rcases hown j b hj with ⟨hlt',h3⟩|⟨hj1,hj2⟩
  ·exact h.inj i j b h2 h3
  ·subst hj2; exact absurd h2 (hno i)
  ·subst hi2; exact absurd h3 (hno j)
  ·omega
 ·rcases hget i ob hi with ⟨hlt,hs⟩|⟨rfl,rfl⟩
  ·exact fp (by simp) ob (h.wf i ob hs)
  ·exact br (by simp) cs hb
 ·obtain ⟨hle,hw⟩:=h.wfb n hn
  refine ⟨by simp; omega,fun i ob hin hi=>?_⟩
  rcases hget i ob hi with ⟨hlt,hs⟩|⟨rfl,rfl⟩
  ·exact hw i ob hin hs
  ·omega
end Go.Ev

namespace Go.Ev
variable [CodeRel]
def DS (P:Program) (nt:Nat) (ops:Array Oper) (e:DEl):Bool:=match e.a with
 | none=>(match ops[e.i]? with|some o=>qX P nt ops e.x o|none=>false)
 | some iA=>match ops[iA]?,ops[e.i]?,e.x.dst,e.x.op,e.x.guard with
  | some oA,some oS,some d,.box n v,none=>oA.dst == some d && decide (d<nt) && oA.guard.isNone && oS.guard.isNone && oS.dst.isNone &&
   (match oA.op,oS.op with
    | .alloc t,.store t' (.tmp d') v'=>d' == d && aJ v v' && xD P t' n && (match P.info? t with|some i=>(match i.zero with|some z=>z.cells.size == n|none=>false)|none=>false)
    | _,_=>false)
  | _,_,_,_,_=>false
structure ST (P:Program) (nt:Nat) (ops:Array Oper) (L:List DEl) (anc:Nat→Nat→Bool):Prop where
 el:∀ e∈L,DS P nt ops e=true
 nd:(L.map (·.i)).Nodup
 lt:∀ e∈L,e.i<ops.size
 cover:∀ i,i<ops.size→(∃ e∈L,e.i=i)∨∃ e∈L,e.a=some i
 alone:∀ e∈L,∀ iA,e.a=some iA→anc e.i iA=true∧∀ e'∈L,e'.i≠iA∧(e'.a=some iA→e'=e)
 dst:∀ e∈L,e.a.isSome=true→∀ e'∈L,e'≠e→∀ d,e.x.dst=some d→e'.x.dst≠some d
 pairs:L.Pairwise fun e' e=>anc e.i e'.i=true∨(sR e'.x.op.kind e.x.op.kind=true∧apart e'.x e.x=true)
 used:L.Pairwise fun e' e=>e.a.isSome=true→∀ d,e.x.dst=some d→d ∉ e'.x.use
 noA:∀ e∈L,e.x.op.kind≠3
 self:∀ e∈L,e.a.isSome=true→∀ d,e.x.dst=some d→d ∉ e.x.use
 base:∀ e∈L,e.x.op.kind=1→e.a=none
 back:∀ i o,ops[i]? = some o→∀ e∈o.after.toList,Region.binds .any e=true→e.on<i
 anc:∀ j o,ops[j]? = some o→∀ i,anc j i=true→∃ e∈o.after.toList,Region.binds .any e=true∧(e.on=i∨anc e.on i=true)
def PendAt (κ:Kn) (σ:Sto) (w0 w:World) (a:Act) (e:DEl) (B:Nat):Prop :=
 ∃ d n v c T,e.x.dst=some d∧e.x.op=.box n v∧a.tmps.getD d undef=.pointer (some ⟨B,0,none⟩)∧w.heap[B]? = some (.cells c T (0,0))∧c.size=n∧(∀ i,own κ σ i≠some B)∧(∀ o,κ.M B o=none)∧w0.heap.size≤B
def sS (anc:Nat→Nat→Bool):List DEl→Bool
 | []=>true
 | e::r=>(En e.x || (Oy e.x && r.all fun z=>anc z.i e.i)) && sS anc r
def Gh (anc:Nat→Nat→Bool) (calls:bY) (bars:List Nat) (pv:Option PV) (eF:Env) (σF:Sto) (l:List DEl) (env:Env) (σ:Sto):Prop:=match pv with
 | none=>∃ eF',bD calls bars (l.map (·.x)) env σ=some (.norm,eF',σF)∧EqAll eF eF'
 | some v=>∃ (p:List DEl) (k:DEl) (s:List DEl) (e1 e2:Env) (σ1:Sto),l=p++k::s∧Oy k.x=true∧En k.x=false∧(∀ z∈s,anc z.i k.i=true)∧bD calls bars (p.map (·.x)) env σ=some (.norm,e1,σ1)∧cL calls bars k.x e1 σ1=some (.pan v,e2,σF)
structure DI (nt:Nat) (ops:Array Oper) (L:List DEl) (anc:Nat→Nat→Bool) (calls:bY) (bars:List Nat) (κ0:Kn) (σ0:Sto) (w0:World) (a0:Act) (eF:Env) (σF:Sto) (pv:Option PV) (e0:Env) (listed:Array Bool) (a:Act) (w:World) (κ:Kn) (σ:Sto) (env:Env):Prop where
 inv:INV bars κ σ w
 kept:Kept σ0.length κ0 σ0 w0 κ σ w
 len:σ0.length≤σ.length
 size:a.tmps.size=nt
 defers:a.defers=a0.defers
 envR:ENV κ σ.length env a.tmps
 run:Gh anc calls bars pv eF σF (left L listed) env σ
 pend:∀ e∈left L listed,∀ iA,e.a=some iA→gl listed iA=true→∃ B,PendAt κ σ w0 w a e B
 dist:∀ e∈left L listed,∀ e'∈left L listed,(∃ iA,e.a=some iA∧gl listed iA=true)→(∃ iA,e'.a=some iA∧gl listed iA=true)→∀ B,PendAt κ σ w0 w a e B→PendAt κ σ w0 w a e' B→e=e'
 lsz:listed.size=ops.size
 down:∀ k,k<ops.size→gl listed k=true→∀ i,anc k i=true→gl listed i=true
 offE:∀ s,(∀ e∈L,e.x.dst≠some s)→bw env s=bw e0 s
theorem vN {L:List DEl} {listed:Array Bool} {e:DEl} (he:e∈L) (hg:gl listed e.i=false):∃ c1 c2,left L listed=c1++e::c2:=by
 have:e∈left L listed:=by
  unfold left
  rw [List.mem_filter]
  exact ⟨he,by simp [hg]⟩
 obtain ⟨c1,c2,h⟩:=List.append_of_mem this
 exact ⟨c1,c2,h⟩
theorem mem_left {L:List DEl} {listed:Array Bool} {e:DEl}:e∈left L listed ↔ e∈L∧gl listed e.i=false:=by
 unfold left
 rw [List.mem_filter]
 simp
theorem zf {t:Array Value} {d d':Nat} {x:Value} (h:d≠d'):(t.setIfInBounds d x).getD d' undef=t.getD d' undef:=by
 rw [Array.getD_eq_getD_getElem?,Array.getD_eq_getD_getElem?,Array.getElem?_setIfInBounds_ne h]
section
variable {P:Program} {nt:Nat} {ops:Array Oper} {L:List DEl} {anc:Nat→Nat→Bool} {calls:bY} {bars:List Nat} {κ0:Kn} {σ0:Sto} {w0:World} {a0:Act} {eF:Env} {σF:Sto} {pv:Option PV} {e0:Env} {listed:Array Bool} {a:Act} {w:World} {κ:Kn} {σ:Sto} {env:Env}
theorem DI.anc_done (st:ST P nt ops L anc) (d:DI nt ops L anc calls bars κ0 σ0 w0 a0 eF σF pv e0 listed a w κ σ env) {j:Nat} (hj:j∈Region.ready .any ops listed):∀ i,anc j i=true→gl listed i=true:=by
 obtain ⟨h1,h2,o,ho,h3⟩:=mem_ready.1 hj
 intro i hi
 obtain ⟨e,he,hb,hc⟩:=st.anc j o ho i hi
 have hlt:=st.back j o ho e he hb
 have hon:gl listed e.on=true:=by
  have:=h3 e he hb
  unfold gl
  rw [Array.getD_eq_getD_getElem?] at this ⊢
  rw [Array.getElem?_eq_getElem (by rw [d.lsz]; omega)] at this ⊢
  simpa using this
 rcases hc with rfl|hc
 ·exact hon
 ·exact d.down e.on (by omega) hon i hc
theorem DI.down_set (d:DI nt ops L anc calls bars κ0 σ0 w0 a0 eF σF pv e0 listed a w κ σ env) {j:Nat} (hjs:j<ops.size) (hanc:∀ i,anc j i=true→gl listed i=true):∀ k,k<ops.size→gl (listed.setIfInBounds j true) k=true→∀ i,anc k i=true→gl (listed.setIfInBounds j true) i=true:=by
 intro k hk hg i hi
 rw [mI (by rw [d.lsz]; exact hjs)] at hg ⊢
 simp only [Bool.or_eq_true,decide_eq_true_eq] at hg ⊢
 rcases hg with hg|rfl
 ·exact .inl (d.down k hk hg i hi)
 ·exact .inl (hanc i hi)
theorem PendAt.keep {κ':Kn} {σ':Sto} {w':World} {a':Act} {e:DEl} {B:Nat} (hk:Kept σ.length κ σ w κ' σ' w') (ht:∀ d,e.x.dst=some d→a'.tmps.getD d undef=a.tmps.getD d undef) (h:PendAt κ σ w0 w a e B):PendAt κ' σ' w0 w' a' e B:=by
 obtain ⟨d,n,v,c,T,h1,h2,h3,h4,h5,h6,h7,h8⟩:=h
 have hlt:B<w.heap.size:=(Array.getElem?_eq_some_iff.1 h4).1
 refine ⟨d,n,v,c,T,h1,h2,by rw [ht d h1]; exact h3,by rw [hk.keep B hlt h6]; exact h4,h5,fun i hi=>?_,fun o=>?_,h8⟩
 ·rcases hk.own i B hi with ⟨j,hj⟩|hge
  ·exact h6 j hj
  ·omega
 ·cases hm:κ'.M B o with
  | none=>rfl
  | some u =>
   rcases hk.M B o u hm with hm'|⟨j,hj⟩|hge
   ·rw [h7 o] at hm'; cases hm'
   ·exact absurd hj (h6 j)
   ·omega
theorem PendAt.same {e:DEl} {B B':Nat} (h:PendAt κ σ w0 w a e B) (h':PendAt κ σ w0 w a e B'):B=B':=by
 obtain ⟨d,n,v,c,T,h1,-,h3,-⟩:=h
 obtain ⟨d',n',v',c',T',h1',-,h3',-⟩:=h'
 rw [h1] at h1'; cases h1'
 rw [h3] at h3'
 cases h3'; rfl
theorem PendAt.back {κ':Kn} {σ':Sto} {w':World} {a':Act} {e:DEl} {B B':Nat} (h:PendAt κ σ w0 w a e B') (h':PendAt κ' σ' w0 w' a' e B) (ht:∀ d,e.x.dst=some d→a'.tmps.getD d undef=a.tmps.getD d undef):PendAt κ σ w0 w a e B:=by
 have:B=B':=by
  obtain ⟨d,n,v,c,T,h1,-,h3,-⟩:=h
  obtain ⟨d',n',v',c',T',h1',-,h3',-⟩:=h'
  rw [h1] at h1'; cases h1'
  rw [ht d h1,h3] at h3'
  cases h3'; rfl
 rw [this]; exact h
end
end Go.Ev

namespace Go.Ev
variable [CodeRel]
theorem Qt (m:Nat):aJ (.t m) (.tmp m)=true:=by simp [aJ]
theorem HZ {P:Program} {x:IOp} {o:Op} (h:zb P x o=true) (hk:x.kind=1):∃ y,aJ x.base y=true:=by
 cases x<;>simp only [IOp.kind] at hk<;>try (exact absurd hk (by decide))
 all_goals
  cases o<;>simp only [zb,Bool.and_eq_true,Bool.false_eq_true] at h
  all_goals first
   | exact ⟨_,Qt _⟩
   | (unfold Ax at h; split at h<;>simp_all; done)
   | exact ⟨_,h.1.1⟩
   | exact ⟨_,h.1.1.1.1⟩
   | exact ⟨_,h.1.1.1.2⟩
def EqOff (d:Nat) (e e':Env):Prop:=∀ s,s≠d→bw e s=bw e' s
theorem EqOff.put {d:Nat} {e e':Env} (h:EqOff d e e') (t:Option Nat) (v:PV):EqOff d (d7 e t v) (d7 e' t v):=by
 cases t with
 | none=>exact h
 | some t=>intro s hs; simp only [d7,bw]; split<;>first|rfl|exact h s hs
theorem EqOff.all {d:Nat} {e e':Env} (h:EqOff d e e') (v:PV):EqAll (d7 e (some d) v) (d7 e' (some d) v):=by
 intro s
 simp only [d7,bw]
 split
 ·rfl
 ·rename_i hs; exact h s (Ne.symm hs)
def rm (d:Nat) (e:Env):Env:=e.filter fun p=>p.1 != d
theorem AA {d s:Nat}:∀ {e:Env},bw (rm d e) s=if s=d then none else bw e s
 | []=>by simp [rm,bw]
 | (t,v)::r=>by
  have ih:=AA (d:=d) (s:=s) (e:=r)
  unfold rm at ih ⊢
  rw [List.filter_cons]
  by_cases htd:t=d
  ·subst htd
   simp only [bne_self_eq_false,Bool.false_eq_true,if_false]
   rw [ih]
   by_cases hs:s=t
   ·simp [hs]
   ·simp [hs,bw,Ne.symm hs]
  ·have:(t != d)=true:=by simp [htd]
   simp only [this,if_true,bw]
   by_cases hs:t=s
   ·subst hs; simp [htd]
   ·simp only [if_neg hs]; exact ih
theorem H0 (d:Nat) (e:Env):EqOff d e (rm d e):=fun s hs=>by rw [AA,if_neg hs]
theorem ENV.rm {κ:Kn} {n:Nat} {env:Env} {tmps:Array Value} (h:ENV κ n env tmps) {d:Nat} {x:Value}:ENV κ n (Ev.rm d env) (tmps.setIfInBounds d x):=by
 have g:∀ s v,bw (Ev.rm d env) s=some v→s≠d∧bw env s=some v:=by
  intro s v hs
  rw [AA] at hs
  split at hs
  ·cases hs
  ·rename_i hne; exact ⟨hne,hs⟩
 refine ⟨fun s v hs=>?_,fun s v hs=>h.wf s v (g s v hs).2,fun s v hs=>by simpa using h.lt s v (g s v hs).2⟩
 rw [zf (Ne.symm (g s v hs).1)]
 exact h.rel s v (g s v hs).2
theorem EJ {calls:bY} {bars:List Nat} {d:Nat} {y:IOper} {c2:List IOper} (hd:y.dst=some d) (hy:d ∉ y.use):∀ {c1:List IOper} {e e' eF:Env} {σ σF:Sto},(∀ x∈c1,d ∉ x.use)→EqOff d e e'→bD calls bars (c1++y::c2) e σ=some (.norm,eF,σF) →
  ∃ eF',bD calls bars (c1++y::c2) e' σ=some (.norm,eF',σF)∧EqAll eF eF'
 | [],e,e',eF,σ,σF,_,ho,h=>by
  simp only [List.nil_append,bD] at h ⊢
  cases h1:cL calls bars y e σ with
  | none=>rw [h1] at h; cases h
  | some r1 =>
   rw [h1] at h
   obtain ⟨e1,env1,σ1⟩:=r1
   cases e1 with
   | norm =>
    obtain ⟨v,h2,rfl⟩:=sQ h1
    have h3:dD calls bars y e' σ=some (v,σ1):=by
     rw [← uU (e:=e) (fun s hs=>ho s fun he=>hy (by rw [← he]; exact hs))]; exact h2
    rw [si h3]
    simp only
    rw [hd] at h ⊢
    exact xN (ho.all v) h
   | exit id=>cases h
   | ret=>cases h
   | pan v=>cases h
 | x::c1,e,e',eF,σ,σF,hx,ho,h=>by
  simp only [List.cons_append,bD] at h ⊢
  cases h1:cL calls bars x e σ with
  | none=>rw [h1] at h; cases h
  | some r1 =>
   rw [h1] at h
   obtain ⟨e1,env1,σ1⟩:=r1
   cases e1 with
   | norm =>
    obtain ⟨v,h2,rfl⟩:=sQ h1
    have h3:dD calls bars x e' σ=some (v,σ1):=by
     rw [← uU (e:=e) (fun s hs=>ho s fun he=>hx x (by simp) (by rw [← he]; exact hs))]; exact h2
    rw [si h3]
    exact EJ hd hy (fun z hz=>hx z (by simp [hz])) (ho.put _ _) h
   | exit id=>cases h
   | ret=>cases h
   | pan v=>cases h
theorem Jc {calls:bY} {bars:List Nat} {d:Nat}:∀ {c1:List IOper} {e e' eF:Env} {σ σF:Sto},(∀ x∈c1,d ∉ x.use)→EqOff d e e'→bD calls bars c1 e σ=some (.norm,eF,σF)→∃ eF',bD calls bars c1 e' σ=some (.norm,eF',σF)∧EqOff d eF eF'
 | [],e,e',eF,σ,σF,_,ho,h=>by
  simp only [bD,Option.some.injEq,Prod.mk.injEq,true_and] at h
  obtain ⟨rfl,rfl⟩:=h
  exact ⟨e',rfl,ho⟩
 | x::c1,e,e',eF,σ,σF,hx,ho,h=>by
  simp only [bD] at h ⊢
  cases h1:cL calls bars x e σ with
  | none=>rw [h1] at h; cases h
  | some r1 =>
   rw [h1] at h
   obtain ⟨e1,env1,σ1⟩:=r1
   cases e1 with
   | norm =>
    obtain ⟨v,h2,rfl⟩:=sQ h1
    have h3:dD calls bars x e' σ=some (v,σ1):=by
     rw [← uU (e:=e) (fun s hs=>ho s fun he=>hx x (by simp) (by rw [← he]; exact hs))]; exact h2
    rw [si h3]
    exact Jc (fun z hz=>hx z (by simp [hz])) (ho.put _ _) h
   | exit id=>cases h
   | ret=>cases h
   | pan v=>cases h
section
variable {P:Program} {nt:Nat} {ops:Array Oper} {L:List DEl} {anc:Nat→Nat→Bool} {calls:bY} {bars:List Nat} {κ0:Kn} {σ0:Sto} {w0:World} {a0:Act} {eF:Env} {σF:Sto} {pv:Option PV} {e0:Env} {listed:Array Bool} {a:Act} {w:World} {κ:Kn} {σ:Sto} {env:Env}
theorem DI.apart (st:ST P nt ops L anc) (d:DI nt ops L anc calls bars κ0 σ0 w0 a0 eF σF pv e0 listed a w κ σ env) {e:DEl} {c1 c2:List DEl} (hs:left L listed=c1++e::c2) (hanc:∀ i,anc e.i i=true→gl listed i=true):∀ x∈c1,sR x.x.op.kind e.x.op.kind=true∧Ev.apart x.x e.x=true:=by
 intro x hx
 have hp:(left L listed).Pairwise _:=List.Pairwise.sublist List.filter_sublist st.pairs
 rw [hs,List.pairwise_append] at hp
 rcases hp.2.2 x hx e (by simp) with h|h
 ·have hxl:x∈left L listed:=by rw [hs]; simp [hx]
  have:=hanc x.i h
  rw [(mem_left.1 hxl).2] at this; cases this
 ·exact h
theorem DT {calls:bY} {bars:List Nat} {o:IOper} {e e' e1:Env} {σ σ':Sto} {v:PV} (h:EqAll e e') (hp:cL calls bars o e σ=some (.pan v,e1,σ')):cL calls bars o e' σ=some (.pan v,e',σ'):=(uV (fun s _=>h s) hp).2
theorem Gi {k:IOper} {v:PV} {σF:Sto} {e2:Env} (hk:Oy k=true):∀ {p:List IOper} {env e1:Env} {σ σ1:Sto},(∀ x∈p,sR x.op.kind k.op.kind=true∧Ev.apart x k=true)→bD calls bars p env σ=some (.norm,e1,σ1)→cL calls bars k e1 σ1=some (.pan v,e2,σF)→cL calls bars k env σ=some (.pan v,env,σF)
 | [],env,e1,σ,σ1,_,h,hp=>by
  simp only [bD,Option.some.injEq,Prod.mk.injEq,true_and] at h
  obtain ⟨rfl,rfl⟩:=h
  obtain ⟨rfl,h2⟩:=uV (fun s _=>rfl) hp
  exact h2
 | x::p,env,e1,σ,σ1,hc,h,hp=>by
  simp only [bD] at h
  cases h1:cL calls bars x env σ with
  | none=>rw [h1] at h; cases h
  | some r1 =>
   rw [h1] at h
   obtain ⟨e1',env1,σx⟩:=r1
   cases e1' with
   | exit id=>cases h
   | ret=>cases h
   | pan v=>cases h
   | norm =>
    obtain ⟨vx,hx,rfl⟩:=sQ h1
    obtain ⟨hcomp,hap⟩:=hc x (by simp)
    obtain ⟨ap1,ap2,ap3,ap4⟩:=A9 hap
    have hk':k.op.kind=2∨k.op.kind=4∨k.op.kind=5∨k.op.kind=6:=by
     unfold Oy at hk
     simpa [or_assoc] using hk
    have hs:σx=σ:=by
     simp only [sR,Bool.or_eq_true,Bool.and_eq_true,beq_iff_eq] at hcomp
     rcases hcomp with (((((((h0|h0)|h0)|⟨h0|h0,-⟩)|⟨-,h0⟩)|⟨h0,-⟩)|⟨h0,-⟩)|⟨-,h0⟩)|⟨-,h0⟩
     ·exact (Ja h0 hx).1
     ·omega
     ·omega
     ·exact (wE h0 (fun v _=>Agree.refl v σ) hx).1
     ·exact Jb h0 hx
     ·omega
     ·exact (wE h0 (fun v _=>Agree.refl v σ) hx).1
     ·exact (wE h0 (fun v _=>Agree.refl v σ) hx).1
     ·omega
     ·omega
    subst hs
    have:=Gi hk (fun z hz=>hc z (by simp [hz])) h hp
    exact (uV (wG ap1) this).2
theorem EL {α β:Type} (f:α→β) {l:List α} (h:(l.map f).Nodup):l.Nodup:=by
 induction l with
 | nil=>simp
 | cons a r ih =>
  simp only [List.map_cons,List.nodup_cons] at h ⊢
  exact ⟨fun ha=>h.1 (List.mem_map_of_mem ha),ih h.2⟩
theorem Gj {α:Type} {a b c d:List α} {x:α} (hn:(a++x::b).Nodup) (h:a++x::b=c++x::d):a=c∧b=d:=by
 induction a generalizing c with
 | nil =>
  cases c with
  | nil=>simp at h; exact ⟨rfl,h⟩
  | cons y c =>
   simp only [List.nil_append,List.cons_append,List.cons.injEq] at h
   obtain ⟨rfl,rfl⟩:=h
   simp at hn
 | cons y a ih =>
  cases c with
  | nil =>
   simp only [List.nil_append,List.cons_append,List.cons.injEq] at h
   obtain ⟨rfl,rfl⟩:=h
   simp at hn
  | cons z c =>
   simp only [List.cons_append,List.cons.injEq] at h
   obtain ⟨rfl,h⟩:=h
   obtain ⟨rfl,rfl⟩:=ih (List.nodup_cons.1 hn).2 h
   exact ⟨rfl,rfl⟩
theorem DI.pulled (st:ST P nt ops L anc) (d:DI nt ops L anc calls bars κ0 σ0 w0 a0 eF σF pv e0 listed a w κ σ env) {e:DEl} {c1 c2:List DEl} (he:e∈L) (hs:left L listed=c1++e::c2) (hanc:∀ i,anc e.i i=true→gl listed i=true) :
  (∃ v σ1,dD calls bars e.x env σ=some (v,σ1)∧Gh anc calls bars pv eF σF (c1++c2) (d7 env e.x.dst v) σ1)∨(∃ v,pv=some v∧En e.x=false∧cL calls bars e.x env σ=some (.pan v,env,σF)):=by
 have hrun0:=d.run
 have hbase:e.x.op.kind=1→σ.length≤σ.length∧∀ v,ev env e.x.op.base=some v→below σ.length v=true:=fun hk=>⟨Nat.le_refl _,fun v hv=>by
   have hc:=st.el e he
   have ha:=st.base e he hk
   unfold DS at hc
   rw [ha] at hc
   simp only at hc
   split at hc
   ·rename_i o ho
    simp only [qX,Bool.and_eq_true] at hc
    obtain ⟨y,hy⟩:=HZ hc.2 hk
    exact (aA d.envR hy hv).2
   ·cases hc⟩
 have hap:∀ x∈c1.map (·.x),sR x.op.kind e.x.op.kind=true∧Ev.apart x e.x=true:=fun x hx=>by
  obtain ⟨z,hz,rfl⟩:=List.mem_map.1 hx
  exact d.apart st hs hanc z hz
 have hno:∀ x∈c1.map (·.x),x.op.kind=3→x.guard=none:=fun x hx hk=>by
  obtain ⟨z,hz,rfl⟩:=List.mem_map.1 hx
  have hzl:z∈left L listed:=by rw [hs]; simp [hz]
  exact absurd hk (st.noA z (mem_left.1 hzl).1)
 cases pv with
 | none =>
  left
  obtain ⟨eF',hrun,heq⟩:=hrun0
  rw [hs,List.map_append,List.map_cons] at hrun
  obtain ⟨v,σ1,envF',h1,h2,h3⟩:=Qs (n:=σ.length) (st.noA e he) hap hno hbase hrun
  exact ⟨v,σ1,h1,envF',by rw [List.map_append]; exact h2,heq.trans h3⟩
 | some v =>
  obtain ⟨p,k,s,e1,e2,σ1,hl,hk,hkc,hdep,hrun,hpan⟩:=hrun0
  have hndL:(left L listed).Nodup:=(EL _ st.nd).sublist List.filter_sublist
  have hel:e∈p++k::s:=by rw [← hl,hs]; simp
  rcases List.mem_append.1 hel with hep|hek
  ·-- before the panic
   left
   obtain ⟨p1,p2,rfl⟩:=List.append_of_mem hep
   have hh:p1++e::(p2++k::s)=c1++e::c2:=by rw [← hs,hl]; simp
   obtain ⟨rfl,rfl⟩:=Gj (by rw [hh,← hs]; exact hndL) hh
   rw [List.map_append,List.map_cons] at hrun
   obtain ⟨v',σ1',envF',h1,h2,h3⟩:=Qs (n:=σ.length) (st.noA e he) hap hno hbase hrun
   refine ⟨v',σ1',h1,p1++p2,k,s,envF',envF',σ1,by simp,hk,hkc,hdep,by rw [List.map_append]; exact h2,DT h3 hpan⟩
  ·rcases List.mem_cons.1 hek with rfl|hes
   ·-- the panic
    right
    have hh:p++e::s=c1++e::c2:=by rw [← hs,hl]
    obtain ⟨rfl,rfl⟩:=Gj (by rw [hh,← hs]; exact hndL) hh
    exact ⟨v,rfl,hkc,Gi hk hap hrun hpan⟩
   ·-- behind it: not ready
    exfalso
    have hkl:k∈left L listed:=by rw [hl]; simp
    have:=hanc k.i (hdep e hes)
    rw [(mem_left.1 hkl).2] at this; cases this
theorem H1 {ro:Option Nat} (hcalls:dL P calls) (st:ST P nt ops L anc) (d:DI nt ops L anc calls bars κ0 σ0 w0 a0 eF σF pv e0 listed a w κ σ env) {e:DEl} (he:e∈L) (ha:e.a=none) (hj:e.i∈Region.ready .any ops listed) {Q:Exit→Act→World→Prop} {K:Act→World→Prop}
  (hP:∀ v e' a' w' κ',pv=some v→Post bars κ σ w a (.pan v,env,σF) e' a' w' κ'→a'.defers=a.defers→Q e' a' w')
  (hK:∀ a' w' κ' σ' env',DI nt ops L anc calls bars κ0 σ0 w0 a0 eF σF pv e0 (listed.setIfInBounds e.i true) a' w' κ' σ' env'→K a' w'):wpOpIn (FW ro) 0 P ops Q e.i K a w:=by
 have hanc:=d.anc_done st hj
 obtain ⟨hlt,hg,o,ho,-⟩:=mem_ready.1 hj
 obtain ⟨c1,c2,hs⟩:=vN he hg
 have hc:=st.el e he
 unfold DS at hc
 rw [ha] at hc
 simp only [ho] at hc
 rcases d.pulled st he hs hanc with ⟨v,σ1,h1,h2⟩|⟨v,hpv,-,h1⟩
 case inr =>
  refine Az hcalls ho hc d.inv d.envR d.size h1 fun ex a' w' κ' hp htm hdf=>?_
  obtain ⟨y,rfl,hy⟩:=hp.ex
  exact hP v _ a' w' κ' hpv hp hdf
 have hls:e.i<listed.size:=by rw [d.lsz]; exact hlt
 refine Az hcalls ho hc d.inv d.envR d.size (si h1) fun ex a' w' κ' hp htm hdf=>?_
 obtain ⟨rfl,henv⟩:=hp.ex
 have hleft:left L (listed.setIfInBounds e.i true)=c1++c2:=Gg hls st.nd hs
 have hsub:∀ z∈left L (listed.setIfInBounds e.i true),z∈left L listed∧z≠e:=by
  intro z hz
  have hz':=mem_left.1 hz
  have hzl:z∈left L listed:=by rw [hleft] at hz; rw [hs]; simp at hz ⊢; rcases hz with h|h<;>simp [h]
  refine ⟨hzl,fun hze=>?_⟩
  subst hze
  have:=hz'.2
  rw [mI hls] at this
  simp at this
 have hlst:∀ z∈L,∀ iA,z.a=some iA→gl (listed.setIfInBounds e.i true) iA=true→gl listed iA=true:=by
  intro z hz iA hza hgl
  rw [mI hls] at hgl
  simp only [Bool.or_eq_true,decide_eq_true_eq] at hgl
  rcases hgl with h|h
  ·exact h
  ·exact absurd h ((st.alone z hz iA hza).2 e he).1
 have htm':∀ z∈L,z.a.isSome=true→z≠e→∀ q,z.x.dst=some q→a'.tmps.getD q undef=a.tmps.getD q undef:=by
  intro z hz hza hne q hq
  exact htm q (st.dst z hz hza e he (Ne.symm hne) q hq)
 refine hK a' w' κ' σ1 _ ⟨hp.inv,d.kept.trans hp.kept d.len,Nat.le_trans d.len hp.len,hp.size.trans d.size,hdf.trans d.defers,henv,by rw [hleft]; exact h2,?_,?_,by simpa using d.lsz,d.down_set hlt hanc,fun s hs'=>by rw [A7 (hs' e he)]; exact d.offE s hs'⟩
 ·intro z hz iA hza hgl
  obtain ⟨hzl,hne⟩:=hsub z hz
  have hzL:=(mem_left.1 hzl).1
  obtain ⟨B,hB⟩:=d.pend z hzl iA hza (hlst z hzL iA hza hgl)
  exact ⟨B,hB.keep hp.kept (htm' z hzL (by rw [hza]; rfl) hne)⟩
 ·intro z hz z' hz' ⟨iA,hza,hgl⟩ ⟨iA',hza',hgl'⟩ B hB hB'
  obtain ⟨hzl,hne⟩:=hsub z hz
  obtain ⟨hzl',hne'⟩:=hsub z' hz'
  have hzL:=(mem_left.1 hzl).1
  have hzL':=(mem_left.1 hzl').1
  have g:=hlst z hzL iA hza hgl
  have g':=hlst z' hzL' iA' hza' hgl'
  obtain ⟨B1,hB1⟩:=d.pend z hzl iA hza g
  obtain ⟨B2,hB2⟩:=d.pend z' hzl' iA' hza' g'
  exact d.dist z hzl z' hzl' ⟨iA,hza,g⟩ ⟨iA',hza',g'⟩ B (hB1.back hB (htm' z hzL (by rw [hza]; rfl) hne)) (hB2.back hB' (htm' z' hzL' (by rw [hza']; rfl) hne'))
end
end Go.Ev

namespace Go.Ev
variable [CodeRel]
section
variable {P:Program} {nt:Nat} {ops:Array Oper} {L:List DEl} {anc:Nat→Nat→Bool} {calls:bY} {bars:List Nat} {κ0:Kn} {σ0:Sto} {w0:World} {a0:Act} {eF:Env} {σF:Sto} {pv:Option PV} {e0:Env} {listed:Array Bool} {a:Act} {w:World} {κ:Kn} {σ:Sto} {env:Env}
theorem t7 {e:DEl} {iA:Nat} (h:DS P nt ops e=true) (ha:e.a=some iA):∃ oA oS d n v t t' v' i i' z,ops[iA]? = some oA∧ops[e.i]? = some oS∧e.x=⟨some d,.box n v,none⟩∧oA.dst=some d∧d<nt∧oA.guard=none∧oS.guard=none∧oS.dst=none∧oA.op=.alloc t∧oS.op=.store t' (.tmp d) v'∧aJ v v'=true∧P.info? t'=some i'∧i'.size=n∧P.info? t=some i∧i.zero=some z∧z.cells.size=n:=by
 unfold DS at h
 rw [ha] at h
 simp only at h
 split at h
 ·rename_i oA oS d n v hA hS hd hop hg
  simp only [Bool.and_eq_true,beq_iff_eq,decide_eq_true_eq,Option.isNone_iff_eq_none] at h
  obtain ⟨⟨⟨⟨⟨h1,h2⟩,h3⟩,h4⟩,h5⟩,h6⟩:=h
  split at h6
  ·rename_i t t' d' v' hoA hoS
   simp only [Bool.and_eq_true,beq_iff_eq] at h6
   obtain ⟨⟨⟨rfl,h7⟩,h8⟩,h9⟩:=h6
   obtain ⟨i',h10,h11⟩:=g9 h8
   split at h9
   ·rename_i i hi
    split at h9
    ·rename_i z hz
     simp only [beq_iff_eq] at h9
     obtain ⟨ei,ea,⟨ed,eo,eg⟩⟩:=e
     simp only at hd hop hg
     subst hd hop hg
     exact ⟨oA,oS,d',n,v,t,t',v',i,i',z,hA,hS,rfl,h1,h2,h3,h4,h5,hoA,hoS,h7,h10,h11,hi,hz,h9⟩
    ·cases h9
   ·cases h9
  ·cases h6
 ·cases h
theorem H2 {ro:Option Nat} (st:ST P nt ops L anc) (d:DI nt ops L anc calls bars κ0 σ0 w0 a0 eF σF pv e0 listed a w κ σ env) {e:DEl} (he:e∈L) {iA:Nat} (ha:e.a=some iA) (hj:iA∈Region.ready .any ops listed) {Q:Exit→Act→World→Prop} {K:Act→World→Prop}
  (hK:∀ a' w' κ' σ' env',DI nt ops L anc calls bars κ0 σ0 w0 a0 eF σF pv e0 (listed.setIfInBounds iA true) a' w' κ' σ' env'→K a' w'):wpOpIn (FW ro) 0 P ops Q iA K a w:=by
 have hanc:=d.anc_done st hj
 obtain ⟨hlt,hg,-⟩:=mem_ready.1 hj
 have hls:iA<listed.size:=by rw [d.lsz]; exact hlt
 obtain ⟨oA,oS,dd,n,v,t,t',v',i,i',z,hA,hS,hx,hdA,hdn,hgA,hgS,hdS,hoA,hoS,hv,hti',hs',hti,hz,hzs⟩:=t7 (st.el e he) ha
 have hei:gl listed e.i=false:=by
  cases hge:gl listed e.i with
  | false=>rfl
  | true =>
   have:=d.down e.i (st.lt e he) hge iA (st.alone e he iA ha).1
   rw [hg] at this; cases this
 obtain ⟨c1,c2,hs⟩:=vN he hei
 have hrun:(execOp a.eval oA).run P w=.ok (.value (.pointer (some ⟨w.heap.size,0,none⟩))) (w.alloc (.cells z.cells t)):=by
  simp [execOp,hoA,Instr.alloc,zeroValue,typeInfo,hti,hz,newVar,newRow]
 unfold wpOpIn
 simp only [hA]
 rw [if_pos (by unfold Region.wanted; rw [hgA])]
 refine ⟨fun _ _=>trivial,?_⟩
 rw [Oper.semAt_eq _ _ _ (by rw [hoA]; simp)]
 rw [hrun]
 show K (a.put oA.dst _) _
 rw [hdA]
 obtain ⟨g1,g2⟩:=INV.more (w':=w.alloc (.cells z.cells t)) (κ':=κ) d.inv (Ext.refl _ _) (fun _ _=>rfl) (by show _≤(w.heap.push _).size; simp) (fun b hb=>by show (w.heap.push _)[b]? = _; exact aW hb) (fun _ _ _=>rfl)
  (fun b o u hm=>by
   have hlt:=oc (d.inv.mem b o u hm)
   have:=d.inv.mem b o u hm
   simp only [World.cell?] at this ⊢
   show (match (w.heap.push _)[b]? with|some (.cells c _ _)=>_|_=>_)=_
   rw [aW hlt]; exact this)
  (fun b hb=>by
   obtain ⟨c,T,fr,h,hsz⟩:=d.inv.cap b hb
   exact ⟨c,T,fr,by show (w.heap.push _)[b]? = _; rw [aW (Array.getElem?_eq_some_iff.1 h).1]; exact h,hsz⟩) rfl rfl rfl
 have hleft:left L (listed.setIfInBounds iA true)=left L listed:=J9 hls fun z hz=>((st.alone e he iA ha).2 z hz).1
 have hput:(a.put (some dd) (.pointer (some ⟨w.heap.size,0,none⟩))).tmps=a.tmps.setIfInBounds dd (.pointer (some ⟨w.heap.size,0,none⟩)):=rfl
 have hddn:e.x.dst=some dd:=by rw [hx]
 have htm:∀ y∈L,y.a.isSome=true→y≠e→∀ q,y.x.dst=some q→(a.tmps.setIfInBounds dd (.pointer (some ⟨w.heap.size,0,none⟩))).getD q undef=a.tmps.getD q undef:=by
  intro y hy hya hne q hq
  refine zf fun hq'=>?_
  subst hq'
  exact st.dst y hy hya e he (Ne.symm hne) dd hq hddn
 have hlst:∀ y∈L,y≠e→∀ iB,y.a=some iB→gl (listed.setIfInBounds iA true) iB=true→gl listed iB=true:=by
  intro y hy hne iB hyb hgl
  rw [mI hls] at hgl
  simp only [Bool.or_eq_true,decide_eq_true_eq] at hgl
  rcases hgl with h|h
  ·exact h
  ·subst h
   exact absurd (((st.alone e he iA ha).2 y hy).2 hyb) hne
 have hnew:PendAt κ σ w0 (w.alloc (.cells z.cells t)) (a.put (some dd) (.pointer (some ⟨w.heap.size,0,none⟩))) e w.heap.size:=by
  refine ⟨dd,n,v,z.cells,t,hddn,by rw [hx],?_,?_,hzs,fun j hj=>?_,d.inv.M_fresh (Nat.le_refl _),d.kept.size⟩
  ·rw [hput,Array.getD_eq_getD_getElem?,Array.getElem?_setIfInBounds_self_of_lt (by rw [d.size]; exact hdn)]; rfl
  ·exact mf _ _
  ·have:=o8 d.inv hj; omega
 have hold:∀ y∈left L listed,y≠e→∀ iB,y.a=some iB→gl (listed.setIfInBounds iA true) iB=true→∃ B,PendAt κ σ w0 w a y B∧PendAt κ σ w0 (w.alloc (.cells z.cells t)) (a.put (some dd) (.pointer (some ⟨w.heap.size,0,none⟩))) y B∧B<w.heap.size:=by
  intro y hy hne iB hyb hgl
  have hyL:=(mem_left.1 hy).1
  obtain ⟨B,hB⟩:=d.pend y hy iB hyb (hlst y hyL hne iB hyb hgl)
  refine ⟨B,hB,hB.keep g2 (htm y hyL (by rw [hyb]; rfl) hne),?_⟩
  obtain ⟨_,_,_,c,T,-,-,-,h4,-⟩:=hB
  exact (Array.getElem?_eq_some_iff.1 h4).1
 have hoff:∀ s,(∀ e∈L,e.x.dst≠some s)→bw (rm dd env) s=bw e0 s:=fun s hs'=>by
  rw [AA,if_neg (fun h=>hs' e he (by rw [hddn,h]))]; exact d.offE s hs'
 refine hK _ _ κ σ (rm dd env) ⟨g1,d.kept.trans g2 d.len,d.len,(iY _ _ _).trans d.size,(fJ _ _ _).trans d.defers,?_,?_,?_,?_,by simpa using d.lsz,d.down_set hlt hanc,hoff⟩
 ·rw [hput]; exact d.envR.rm
 ·rw [hleft]
  have hr0:=d.run
  have hp:(left L listed).Pairwise _:=List.Pairwise.sublist List.filter_sublist st.used
  have hself:=st.self e he (by rw [ha]; rfl) dd hddn
  cases pv with
  | none =>
   obtain ⟨eF',hr,heq⟩:=hr0
   rw [hs,List.map_append,List.map_cons] at hr
   rw [hs,List.pairwise_append] at hp
   obtain ⟨eF'',h1,h2⟩:=EJ hddn hself (fun y hy=>by
    obtain ⟨q,hq,rfl⟩:=List.mem_map.1 hy
    exact hp.2.2 q hq e (by simp) (by rw [ha]; rfl) dd hddn) (H0 dd env) hr
   exact ⟨eF'',by rw [hs,List.map_append,List.map_cons]; exact h1,heq.trans h2⟩
  | some v =>
   obtain ⟨p,k,s,e1,e2,σ1,hl,hk,hkc,hdep,hrun,hpan⟩:=hr0
   have hel:e∈p++k::s:=by rw [← hl,hs]; simp
   rcases List.mem_append.1 hel with hep|hek
   ·obtain ⟨p1,p2,rfl⟩:=List.append_of_mem hep
    rw [hl,List.append_assoc,List.pairwise_append] at hp
    rw [List.map_append,List.map_cons] at hrun
    obtain ⟨eF'',h1,h2⟩:=EJ hddn hself (fun y hy=>by
     obtain ⟨q,hq,rfl⟩:=List.mem_map.1 hy
     exact hp.2.2 q hq e (by simp) (by rw [ha]; rfl) dd hddn) (H0 dd env) hrun
    exact ⟨p1++e::p2,k,s,eF'',eF'',σ1,hl,hk,hkc,hdep,by rw [List.map_append,List.map_cons]; exact h1,DT h2 hpan⟩
   ·rcases List.mem_cons.1 hek with rfl|hes
    ·rw [hx] at hkc; simp [En] at hkc
    ·rw [hl,List.pairwise_append] at hp
     have hu:∀ q,q∈p∨q=k→dd ∉ q.x.use:=fun q hq=>by
      rcases hq with hq|rfl
      ·exact hp.2.2 q hq e (by simp [hes]) (by rw [ha]; rfl) dd hddn
      ·exact (List.pairwise_cons.1 hp.2.1).1 e hes (by rw [ha]; rfl) dd hddn
     obtain ⟨eF'',h1,h2⟩:=Jc (fun y hy=>by
      obtain ⟨q,hq,rfl⟩:=List.mem_map.1 hy
      exact hu q (.inl hq)) (H0 dd env) hrun
     exact ⟨p,k,s,eF'',eF'',σ1,hl,hk,hkc,hdep,h1,(uV (fun s hs=>h2 s fun hse=>hu k (.inr rfl) (by rw [← hse]; exact hs)) hpan).2⟩
 ·intro y hy iB hyb hgl
  rw [hleft] at hy
  by_cases hye:y=e
  ·subst hye
   exact ⟨_,hnew⟩
  ·obtain ⟨B,-,hB,-⟩:=hold y hy hye iB hyb hgl
   exact ⟨B,hB⟩
 ·intro y hy y' hy' ⟨iB,hyb,hgl⟩ ⟨iB',hyb',hgl'⟩ B hB hB'
  rw [hleft] at hy hy'
  by_cases hye:y=e
  ·subst hye
   by_cases hye':y'=y
   ·exact hye'.symm
   ·obtain ⟨B1,-,h2,h3⟩:=hold y' hy' hye' iB' hyb' hgl'
    have e1:=hB.same hnew
    have e2:=hB'.same h2
    omega
  ·obtain ⟨B1,h1,h2,h3⟩:=hold y hy hye iB hyb hgl
   have e1:=hB.same h2
   by_cases hye':y'=e
   ·subst hye'
    have e2:=hB'.same hnew
    omega
   ·obtain ⟨B2,h1',h2',h3'⟩:=hold y' hy' hye' iB' hyb' hgl'
    have e2:=hB'.same h2'
    subst e1; subst e2
    exact d.dist y hy y' hy' ⟨iB,hyb,hlst y (mem_left.1 hy).1 hye iB hyb hgl⟩ ⟨iB',hyb',hlst y' (mem_left.1 hy').1 hye' iB' hyb' hgl'⟩ _ h1 h1'
end
end Go.Ev

namespace Go.Ev
variable [CodeRel]
theorem INV.poke {bars:List Nat} {κ:Kn} {σ:Sto} {w:World} (h:INV bars κ σ w) {c c':Array Value} {T:TypeId} {B:Nat} (hB:w.heap[B]? = some (.cells c T (0,0))) (hno:∀ i,own κ σ i≠some B) (hM:∀ o,κ.M B o=none) (hsz:c'.size=c.size):INV bars κ σ (w.setRow B c'):=by
 refine ⟨fun i ob hs=>?_,h.inj,fun b o v hm=>?_,fun b hb=>?_,h.wf,h.wfb⟩
 ·refine obRel.keep (Ext.refl σ.length κ) (List.getElem?_eq_some_iff.1 hs).1 rfl (h.wf i ob hs) (fun b hb=>⟨setRow_other _ _ _ _ fun e=>?_,fun _=>rfl⟩) (h.obs i ob hs)
  subst e
  exact hno i (by rw [dx hs]; exact hb)
 ·have hne:b≠B:=by rintro rfl; rw [hM] at hm; cases hm
  rw [cell_setRow_other _ _ _ _ (by simpa using hne)]; exact h.mem _ _ _ hm
 ·obtain ⟨d,T',fr,hd,hsz'⟩:=h.cap b hb
  by_cases hbb:b=B
  ·subst hbb
   rw [hB] at hd; cases hd
   exact ⟨c',T,(0,0),setRow_heap _ _ _ _ _ _ hB,by omega⟩
  ·exact ⟨d,T',fr,by rw [setRow_other _ _ _ _ hbb]; exact hd,hsz'⟩
section
variable {P:Program} {nt:Nat} {ops:Array Oper} {L:List DEl} {anc:Nat→Nat→Bool} {calls:bY} {bars:List Nat} {κ0:Kn} {σ0:Sto} {w0:World} {a0:Act} {eF:Env} {σF:Sto} {pv:Option PV} {e0:Env} {listed:Array Bool} {a:Act} {w:World} {κ:Kn} {σ:Sto} {env:Env}
theorem H3 {ro:Option Nat} (st:ST P nt ops L anc) (d:DI nt ops L anc calls bars κ0 σ0 w0 a0 eF σF pv e0 listed a w κ σ env) {e:DEl} (he:e∈L) {iA:Nat} (ha:e.a=some iA) (hj:e.i∈Region.ready .any ops listed) {Q:Exit→Act→World→Prop} {K:Act→World→Prop}
  (hK:∀ a' w' κ' σ' env',DI nt ops L anc calls bars κ0 σ0 w0 a0 eF σF pv e0 (listed.setIfInBounds e.i true) a' w' κ' σ' env'→K a' w'):wpOpIn (FW ro) 0 P ops Q e.i K a w:=by
 have hanc:=d.anc_done st hj
 obtain ⟨hlt,hg,-⟩:=mem_ready.1 hj
 have hls:e.i<listed.size:=by rw [d.lsz]; exact hlt
 obtain ⟨oA,oS,dd,n,v,t,t',v',i,i',z,hA,hS,hx,hdA,hdn,hgA,hgS,hdS,hoA,hoS,hv,hti',hs',hti,hz,hzs⟩:=t7 (st.el e he) ha
 have hla:gl listed iA=true:=hanc iA (st.alone e he iA ha).1
 obtain ⟨c1,c2,hs⟩:=vN he hg
 have hel:e∈left L listed:=mem_left.2 ⟨he,hg⟩
 obtain ⟨v1,σ1,h1,h2⟩:∃ v σ1,dD calls bars e.x env σ=some (v,σ1)∧Gh anc calls bars pv eF σF (c1++c2) (d7 env e.x.dst v) σ1:=by
  rcases d.pulled st he hs hanc with h|⟨v,-,hkc,-⟩
  ·exact h
  ·rw [hx] at hkc; simp [En] at hkc
 obtain ⟨B,hPB⟩:=d.pend e hel iA ha hla
 obtain ⟨dd',n',v'',c,T,p1,p2,p3,p4,p5,p6,p7,p8⟩:=id hPB
 have hddn:e.x.dst=some dd:=by rw [hx]
 rw [hddn] at p1 h2
 cases p1
 rw [hx] at p2
 cases p2
 obtain ⟨u,hu,hlen,hok,rfl,rfl⟩:∃ u,ev env v=some u∧(cells u).length=n∧okc u=true∧v1=.ptr σ.length 0∧σ1=σ++[.var (cells u)]:=by
  rw [hx] at h1
  simp only [dD,dP,opE] at h1
  cases hu:ev env v with
  | none=>rw [hu] at h1; cases h1
  | some u =>
   rw [hu] at h1
   simp only [Option.bind_some] at h1
   by_cases hc:(cells u).length=n∧okc u=true
   ·rw [if_pos hc] at h1
    simp only [Option.some.injEq,Prod.mk.injEq] at h1
    exact ⟨u,rfl,hc.1,hc.2,h1.1.symm,h1.2.symm⟩
   ·rw [if_neg hc] at h1; cases h1
 obtain ⟨q1,q2⟩:=aA d.envR hv hu
 obtain ⟨q3,q4⟩:=q1.cells hok
 have hxs:=jE q1 hok
 have hrun:=pG (P:=P) (x:=a.eval v') (o:=0) hti' (by rw [← hxs,hlen,hs']) p4 (by omega) q4
 have hc':(c.toList.take 0++(a.eval v').cells.toList++c.toList.drop (0+(a.eval v').cells.size)).toArray=(a.eval v').cells:=by
  have:c.toList.drop (0+(a.eval v').cells.size)=[]:=List.drop_eq_nil_of_le (by simp; omega)
  rw [this]; simp
 rw [hc'] at hrun
 have hcs:(a.eval v').cells.size=c.size:=by omega
 have hex:(execOp a.eval oS).run P w=.ok .skip (w.setRow B (a.eval v').cells):=by
  have hd':a.eval (.tmp dd)=.pointer (some ⟨B,0,none⟩):=p3
  simp [execOp,hoS,Instr.storeAt,Instr.sureAddr,hd',hrun]
 unfold wpOpIn
 simp only [hS]
 rw [if_pos (by unfold Region.wanted; rw [hgS])]
 refine ⟨fun _ _=>trivial,?_⟩
 rw [Oper.semAt_eq _ _ _ (by rw [hoS]; simp)]
 rw [hex]
 show K (a.put oS.dst undef) _
 rw [hdS]
 show K a _
 have hrow:=setRow_heap w B c (a.eval v').cells T (0,0) p4
 have hinv:=INV.adopt (INV.poke d.inv p4 p6 p7 hcs) hrow p6 p7 q3 q4 (jZ q2)
 have hext:=Ext.at κ σ.length B
 have hown:∀ i b,own (κ.at σ.length B) (σ++[Ob.var (cells u)]) i=some b→own κ σ i=some b∨b=B:=by
  intro i b hi
  cases hsi:(σ++[Ob.var (cells u)])[i]? with
  | none=>unfold own at hi; rw [hsi] at hi; cases hi
  | some ob =>
   rw [dx hsi] at hi
   rcases Nat.lt_or_ge i σ.length with hil|hig
   ·rw [List.getElem?_append_left hil] at hsi
    refine .inl ?_
    rw [dx hsi]
    cases ob<;>first|(simpa [ee,Kn.at,Nat.ne_of_lt hil] using hi)|(simp [ee] at hi)
   ·rw [List.getElem?_append_right hig] at hsi
    obtain hz0|hz0:i - σ.length=0∨0<i - σ.length:=by omega
    ·have:i=σ.length:=by omega
     subst this
     simp at hsi; subst hsi
     simp [ee,Kn.at] at hi; exact .inr hi.symm
    ·rw [List.getElem?_eq_none (by simp; omega)] at hsi; cases hsi
 have hkept:Kept σ0.length κ0 σ0 w0 (κ.at σ.length B) (σ++[.var (cells u)]) (w.setRow B (a.eval v').cells):=by
  refine ⟨d.kept.ext.trans hext d.len,by rw [oP]; exact d.kept.size,fun b hb hno=>?_,fun i b hi=>?_,d.kept.M,d.kept.os,d.kept.output,d.kept.tape⟩
  ·rw [setRow_other _ _ _ _ (by omega:b≠B)]; exact d.kept.keep b hb hno
  ·rcases hown i b hi with h|rfl
   ·exact d.kept.own i b h
   ·exact .inr p8
 have hleft:left L (listed.setIfInBounds e.i true)=c1++c2:=Gg hls st.nd hs
 have hsub:∀ y∈left L (listed.setIfInBounds e.i true),y∈left L listed∧y≠e:=by
  intro y hy
  have hy':=mem_left.1 hy
  have hyl:y∈left L listed:=by rw [hleft] at hy; rw [hs]; simp at hy ⊢; rcases hy with h|h<;>simp [h]
  refine ⟨hyl,fun hye=>?_⟩
  subst hye
  have:=hy'.2
  rw [mI hls] at this
  simp at this
 have hlst:∀ y∈L,∀ iB,y.a=some iB→gl (listed.setIfInBounds e.i true) iB=true→gl listed iB=true:=by
  intro y hy iB hyb hgl
  rw [mI hls] at hgl
  simp only [Bool.or_eq_true,decide_eq_true_eq] at hgl
  rcases hgl with h|h
  ·exact h
  ·exact absurd h ((st.alone y hy iB hyb).2 e he).1
 refine hK a _ (κ.at σ.length B) _ (d7 env (some dd) (.ptr σ.length 0)) ⟨hinv,hkept,Nat.le_trans d.len (by simp),d.size,d.defers,?_,by rw [hleft]; exact h2,?_,?_,by simpa using d.lsz,d.down_set hlt hanc,fun s hs'=>by rw [A7 (by rw [← hddn]; exact hs' e he)]; exact d.offE s hs'⟩
 ·refine (d.envR.mono hext (m:=(σ++[Ob.var (cells u)]).length) (by simp)).cons' (by rw [d.size]; exact hdn) ?_ (by simp [below])
  rw [p3]
  exact ⟨_,rfl,by simp [Kn.at],fun _=>by simp [Kn.at]⟩
 ·intro y hy iB hyb hgl
  obtain ⟨hyl,hne⟩:=hsub y hy
  have hyL:=(mem_left.1 hyl).1
  obtain ⟨B1,hB1⟩:=d.pend y hyl iB hyb (hlst y hyL iB hyb hgl)
  have hBB:B1≠B:=by
   rintro rfl
   exact hne (d.dist y hyl e hel ⟨iB,hyb,hlst y hyL iB hyb hgl⟩ ⟨iA,ha,hla⟩ _ hB1 hPB)
  obtain ⟨d2,n2,v2,c2',T2,r1,r2,r3,r4,r5,r6,r7,r8⟩:=hB1
  refine ⟨B1,d2,n2,v2,c2',T2,r1,r2,r3,by rw [setRow_other _ _ _ _ hBB]; exact r4,r5,fun i hi=>?_,r7,r8⟩
  rcases hown i B1 hi with h|h
  ·exact r6 i h
  ·exact hBB h
 ·intro y hy y' hy' ⟨iB,hyb,hgl⟩ ⟨iB',hyb',hgl'⟩ B1 hB hB'
  obtain ⟨hyl,hne⟩:=hsub y hy
  obtain ⟨hyl',hne'⟩:=hsub y' hy'
  have g:=hlst y (mem_left.1 hyl).1 iB hyb hgl
  have g':=hlst y' (mem_left.1 hyl').1 iB' hyb' hgl'
  obtain ⟨B2,hB2⟩:=d.pend y hyl iB hyb g
  obtain ⟨B3,hB3⟩:=d.pend y' hyl' iB' hyb' g'
  exact d.dist y hyl y' hyl' ⟨iB,hyb,g⟩ ⟨iB',hyb',g'⟩ B1 (hB2.back hB (fun _ _=>rfl)) (hB3.back hB' (fun _ _=>rfl))
theorem LK {ro:Option Nat} (hcalls:dL P calls) (st:ST P nt ops L anc) {Q:Exit→Act→World→Prop} (hQ:∀ listed a w κ σ env,DI nt ops L anc calls bars κ0 σ0 w0 a0 eF σF pv e0 listed a w κ σ env→left L listed=[]→Q .normal a w)
  (hP:∀ listed a w κ σ env,DI nt ops L anc calls bars κ0 σ0 w0 a0 eF σF pv e0 listed a w κ σ env→∀ v e' a' w' κ',pv=some v→Post bars κ σ w a (.pan v,env,σF) e' a' w' κ'→a'.defers=a.defers→Q e' a' w') :
  ∀ (fuel:Nat) {listed:Array Bool} {a:Act} {w:World} {κ:Kn} {σ:Sto} {env:Env},DI nt ops L anc calls bars κ0 σ0 w0 a0 eF σF pv e0 listed a w κ σ env→cnt ops.size listed≤fuel→wpAnyIn (FW ro) 0 P .any ops Q fuel listed a w:=by
 intro fuel
 induction fuel with
 | zero =>
  intro listed a w κ σ env d hc
  have hr:=HY (ops:=ops) (listed:=listed) (by omega)
  exact ⟨hr,hQ listed a w κ σ env d (zd d.lsz st.lt st.back hr).1⟩
 | succ fuel ih =>
  intro listed a w κ σ env d hc
  refine ⟨fun hr=>hQ listed a w κ σ env d (zd d.lsz st.lt st.back hr).1,fun j hj=>?_⟩
  obtain ⟨hlt,hg,-⟩:=mem_ready.1 hj
  have hcs:=OG (n:=ops.size) (i:=j) (listed:=listed) (by rw [d.lsz]; exact hlt) hlt hg
  rcases st.cover j hlt with ⟨e,he,rfl⟩|⟨e,he,ha⟩
  ·cases ha:e.a with
   | none=>exact H1 hcalls st d he ha hj (hP _ _ _ _ _ _ d) fun a' w' κ' σ' env' d'=>ih d' (by omega)
   | some iA=>exact H3 st d he ha hj fun a' w' κ' σ' env' d'=>ih d' (by omega)
  ·exact H2 st d he ha hj fun a' w' κ' σ' env' d'=>ih d' (by omega)
theorem H4 (st:ST P nt ops L anc):left L (Array.replicate ops.size false)=L:=by
 unfold left
 rw [List.filter_eq_self]
 intro e hel
 have:gl (Array.replicate ops.size false) e.i=false:=by
  unfold gl
  rw [Array.getD_eq_getD_getElem?,Array.getElem?_replicate,if_pos (st.lt e hel)]; rfl
 simp [this]
theorem Gk {ro:Option Nat} (hcalls:dL P calls) (st:ST P nt ops L anc) (hm:P.follows .mixedOrders=true) {id:Nat} {Q:Exit→Act→World→Prop} {envF:Env}
  (hi:INV bars κ σ w) (he:ENV κ σ.length env a.tmps) (hs:a.tmps.size=nt) (hr:Gh anc calls bars pv envF σF L env σ)
  (hQ:∀ listed a' w' κ' σ' env',DI nt ops L anc calls bars κ σ w a envF σF pv env listed a' w' κ' σ' env'→left L listed=[]→Q .normal a' w')
  (hP:∀ listed a1 w1 κ1 σ1 env1,DI nt ops L anc calls bars κ σ w a envF σF pv env listed a1 w1 κ1 σ1 env1→∀ v e' a' w' κ',pv=some v→Post bars κ1 σ1 w1 a1 (.pan v,env1,σF) e' a' w' κ'→a'.defers=a1.defers→Q e' a' w'):(Code.region id ops true).wpIn (FW ro) 0 P Q a w:=by
 refine wpIn_region_any hm ?_
 have hget:∀ i,i<ops.size→gl (Array.replicate ops.size false) i=false:=by
  intro i hi
  unfold gl
  rw [Array.getD_eq_getD_getElem?,Array.getElem?_replicate,if_pos hi]; rfl
 have hl0:=H4 st
 have hiA:∀ e∈L,∀ iA,e.a=some iA→gl (Array.replicate ops.size false) iA=false:=by
  intro e hel iA ha
  obtain ⟨oA,oS,dd,n,v,t,t',v',i,i',z,hA,-⟩:=t7 (st.el e hel) ha
  exact hget iA (Array.getElem?_eq_some_iff.1 hA).1
 refine LK (bars:=bars) (κ0:=κ) (σ0:=σ) (w0:=w) (a0:=a) (eF:=envF) (σF:=σF) (pv:=pv) (e0:=env) hcalls st hQ hP ops.size (κ:=κ) (σ:=σ) (env:=env) ?_ ?_
 ·refine ⟨hi.drew _,?_,Nat.le_refl _,hs,rfl,he,by rw [hl0]; exact hr,fun e hel iA ha hg=>?_,fun e hel e' hel' ⟨iA,ha,hg⟩=>?_,by simp,fun k hk hg=>?_,fun _ _=>rfl⟩
  ·exact ⟨Ext.refl _ _,Nat.le_refl _,fun _ _ _=>rfl,fun i b h=>.inl ⟨i,h⟩,fun _ _ _ h=>.inl h,rfl,rfl,rfl⟩
  ·rw [hiA e (by rw [hl0] at hel; exact hel) iA ha] at hg; cases hg
  ·rw [hiA e (by rw [hl0] at hel; exact hel) iA ha] at hg; cases hg
  ·rw [hget k hk] at hg; cases hg
 ·unfold cnt
  refine Nat.le_trans (List.countP_le_length) ?_
  simp
theorem H5 {ro:Option Nat} (hcalls:dL P calls) (st:ST P nt ops L anc) (hm:P.follows .mixedOrders=true) {id:Nat} {Q:Exit→Act→World→Prop} {envF:Env} {keep:List Nat}
  (hi:INV bars κ σ w) (he:ENV κ σ.length env a.tmps) (hs:a.tmps.size=nt) (hr:bD calls bars (L.map (·.x)) env σ=some (.norm,envF,σF)) (hQ:∀ e a' w' κ',Post bars κ σ w a (.norm,restrict keep envF,σF) e a' w' κ'→a'.defers=a.defers→Q e a' w'):(Code.region id ops true).wpIn (FW ro) 0 P Q a w:=by
 refine Gk (pv:=none) (envF:=envF) (σF:=σF) hcalls st hm hi he hs ⟨envF,hr,EqAll.refl _⟩ (fun listed a' w' κ' σ' env' d hl=>?_) (fun _ _ _ _ _ _ _ _ _ _ _ _ h=>by cases h)
 obtain ⟨eF',hrun,heq⟩:=d.run
 rw [hl] at hrun
 simp only [List.map_nil,bD,Option.some.injEq,Prod.mk.injEq,true_and] at hrun
 obtain ⟨rfl,rfl⟩:=hrun
 refine hQ .normal a' w' κ' ⟨d.inv,d.kept,d.len,d.size.trans hs.symm,.of_eq d.defers,rfl,?_⟩ d.defers
 have g:∀ s v,bw (restrict keep envF) s=some v→bw env' s=some v:=fun s v h=>by rw [← heq s]; exact gL h
 exact ⟨fun s v h=>d.envR.rel s v (g s v h),fun s v h=>d.envR.wf s v (g s v h),fun s v h=>d.envR.lt s v (g s v h)⟩
theorem xO {xs:List IOper} {s:Nat}:∀ {e:Env} {v:PV},bw (Eo xs e) s=some v→bw e s=some v∧∀ x∈xs,x.dst≠some s
 | [],v,h=>by simp [Eo,bw] at h
 | (m,u)::e,v,h=>by
  unfold Eo at h
  rw [List.filter_cons] at h
  by_cases hm:(!(xs.any fun o=>o.dst == some m))=true
  ·rw [if_pos hm] at h
   simp only [bw] at h ⊢
   by_cases hs:m=s
   ·subst hs
    simp at h
    refine ⟨by simp [h],fun x hx hd=>?_⟩
    simp only [Bool.not_eq_true',List.any_eq_false,beq_iff_eq] at hm
    exact hm x hx hd
   ·have hs':¬ s=m:=fun h=>hs h.symm
    simp [hs,hs'] at h ⊢
    exact xO h
  ·rw [if_neg hm] at h
   obtain ⟨h1,h2⟩:=xO h
   refine ⟨?_,h2⟩
   simp only [bw]
   by_cases hs:m=s
   ·subst hs
    simp only [Bool.not_eq_true',Bool.not_eq_false,List.any_eq_true,beq_iff_eq] at hm
    obtain ⟨x,hx,hd⟩:=hm
    exact absurd hd (h2 x hx)
   ·have hs':¬ s=m:=fun h=>hs h.symm
    simp [hs,hs',h1]
theorem LL {o:IOper} {env e1:Env} {σ σ':Sto} {v:PV} (h:En o=true):cL calls bars o env σ≠some (.pan v,e1,σ'):=by
 intro hp
 unfold cL at hp
 split at hp
 ·have hv:∀ r,opE bars env σ o.op=some r→∃ v σ',r=.val v σ':=by
   intro r hr
   unfold En at h
   simp only [Bool.or_eq_true,beq_iff_eq] at h
   rcases h with (h|h)|h
   ·obtain ⟨f,hf⟩:=SI (bars:=bars) (env:=env) h
    rw [hf] at hr
    cases f with
    | none=>cases hr
    | some u=>cases hr; exact ⟨_,_,rfl⟩
   ·obtain ⟨u,hu,-⟩:=SJ h (fun v _=>Agree.refl v σ) hr
    exact ⟨_,_,hu⟩
   ·cases ho:o.op<;>rw [ho] at h<;>simp at h
    rw [ho,opE] at hr
    rename_i n x
    cases hx:ev env x with
    | none=>rw [hx] at hr; cases hr
    | some u =>
     rw [hx] at hr
     simp only [Option.bind_some] at hr
     split at hr
     ·cases hr; exact ⟨_,_,rfl⟩
     ·cases hr
  split at hp
  ·cases hp
  ·rename_i hop
   obtain ⟨_,_,h⟩:=hv _ hop; cases h
  ·rename_i hop
   obtain ⟨_,_,h⟩:=hv _ hop; cases h
  ·cases hp
 ·cases hp
 ·cases hp
theorem Jd {v:PV} {e2 eF:Env}:∀ {l:List DEl} {env:Env} {σ:Sto},sS anc l=true→bD calls bars (l.map (·.x)) env σ=some (.pan v,e2,σF)→Gh anc calls bars (some v) eF σF l env σ
 | [],env,σ,_,h=>by simp [bD] at h
 | o::r,env,σ,hd,h=>by
  simp only [sS,Bool.and_eq_true] at hd
  simp only [List.map_cons,bD] at h
  cases h1:cL calls bars o.x env σ with
  | none=>rw [h1] at h; cases h
  | some r1 =>
   rw [h1] at h
   obtain ⟨ex,env1,σ1⟩:=r1
   cases ex with
   | norm =>
    obtain ⟨p,k,s,e1,e3,σ2,hl,hk,hkc,hdep,hrun,hpan⟩:=Jd (eF:=eF) hd.2 h
    refine ⟨o::p,k,s,e1,e3,σ2,by rw [hl]; rfl,hk,hkc,hdep,?_,hpan⟩
    simp only [List.map_cons,bD,h1]
    exact hrun
   | pan u =>
    simp only [Option.some.injEq,Prod.mk.injEq,Ex.pan.injEq] at h
    obtain ⟨rfl,rfl,rfl⟩:=h
    have hc:En o.x=false:=by
     cases hc:En o.x with
     | false=>rfl
     | true=>exact absurd h1 (LL hc)
    have hd1:=hd.1
    rw [hc,Bool.false_or,Bool.and_eq_true] at hd1
    exact ⟨[],o,r,env,env1,σ,rfl,hd1.1,hc,fun z hz=>List.all_eq_true.1 hd1.2 z hz,rfl,h1⟩
   | exit id=>cases h
   | ret=>cases h
theorem LM {ro:Option Nat} (hcalls:dL P calls) (st:ST P nt ops L anc) (hm:P.follows .mixedOrders=true) {id:Nat} {Q:Exit→Act→World→Prop} {e2:Env} {v:PV}
  (hi:INV bars κ σ w) (he:ENV κ σ.length env a.tmps) (hs:a.tmps.size=nt) (hd:sS anc L=true) (hr:bD calls bars (L.map (·.x)) env σ=some (.pan v,e2,σF)) (hQ:∀ e a' w' κ',Post bars κ σ w a (.pan v,Eo (L.map (·.x)) env,σF) e a' w' κ'→a'.defers=a.defers→Q e a' w'):(Code.region id ops true).wpIn (FW ro) 0 P Q a w:=by
 refine Gk (pv:=some v) (envF:=[]) (σF:=σF) hcalls st hm hi he hs (Jd hd hr) (fun listed a' w' κ' σ' env' d hl=>?_) (fun listed a1 w1 κ1 σ1 env1 d v' e' a' w' κ' hv hp hdf=>?_)
 ·obtain ⟨p,k,s,e1,e3,σ2,hl',-⟩:=d.run
  rw [hl] at hl'; simp at hl'
 ·cases hv
  refine hQ e' a' w' κ' ⟨hp.inv,d.kept.trans hp.kept d.len,Nat.le_trans d.len hp.len,(hp.size.trans d.size).trans hs.symm,.of_eq (hdf.trans d.defers),?_⟩ (hdf.trans d.defers)
  obtain ⟨x,h1,h2,h3,h4⟩:=hp.ex
  refine ⟨x,h1,h2,h3,?_⟩
  have g:∀ s v,bw (Eo (L.map (·.x)) env) s=some v→bw env1 s=some v:=fun s v h=>by
   obtain ⟨h5,h6⟩:=xO h
   rw [d.offE s fun e he=>h6 e.x (List.mem_map_of_mem he)]
   exact h5
  exact ⟨fun s v h=>h4.rel s v (g s v h),fun s v h=>h4.wf s v (g s v h),fun s v h=>h4.lt s v (g s v h)⟩
end
end Go.Ev

namespace Go.Ev
variable [CodeRel]
def mkL (ix:List (Nat×Option Nat)) (xs:List IOper):List DEl:=ix.zipWith (fun p x=>⟨p.1,p.2,x⟩) xs
theorem AB:∀ {ix:List (Nat×Option Nat)} {xs:List IOper},xs.length≤ix.length→(mkL ix xs).map (·.x)=xs
 | [],[],_=>rfl
 | [],_::_,h=>by simp at h
 | _::_,[],_=>rfl
 | p::ix,x::xs,h=>by
  have:=AB (ix:=ix) (xs:=xs) (by simpa using h)
  unfold mkL at this ⊢
  simp only [List.zipWith_cons_cons,List.map_cons,this]
def EM:List Nat→Bool
 | []=>true
 | x::r=>!r.contains x && EM r
theorem zg:∀ {l:List Nat},EM l=true→l.Nodup
 | [],_=>List.nodup_nil
 | x::r,h=>by
  simp only [EM,Bool.and_eq_true,Bool.not_eq_true'] at h
  rw [List.nodup_cons]
  exact ⟨by simpa using h.1,zg h.2⟩
def Gl {α:Type} (f:α→α→Bool):List α→Bool
 | []=>true
 | x::r=>r.all (f x) && Gl f r
theorem vO {α:Type} {f:α→α→Bool}:∀ {l:List α},Gl f l=true→l.Pairwise fun a b=>f a b=true
 | [],_=>.nil
 | x::r,h=>by
  simp only [Gl,Bool.and_eq_true,List.all_eq_true] at h
  exact .cons h.1 (vO h.2)
def EN (ms:Array Nat) (j i:Nat):Bool:=decide (i<ms.size) && (ms.getD j 0).testBit i
def LN (ops:Array Oper) (ms:Array Nat):Bool:=(List.range ops.size).all fun j=>match ops[j]? with
 | some o=>(List.range ms.size).all fun i=>!EN ms j i || o.after.toList.any fun e=>Region.binds .any e && (e.on == i || EN ms e.on i)
 | none=>true
def Ka (d:Option Nat) (f:Nat→Bool):Bool:=match d with
 | some d=>f d
 | none=>true
def Je (P:Program) (nt:Nat) (ops:Array Oper) (L:List DEl):Bool :=
 let ms:=Region.before ops
 (L.all (DS P nt ops)) && EM (L.map (·.i)) && (L.all fun e=>decide (e.i<ops.size)) &&
 ((List.range ops.size).all fun i=>L.any fun e=>e.i == i || e.a == some i) &&
 (L.all fun e=>match e.a with|none=>true|some iA=>EN ms e.i iA && L.all fun e'=>e'.i != iA && (e'.a != some iA || e'.i == e.i)) &&
 (L.all fun e=>!e.a.isSome || L.all fun e'=>e'.i == e.i || Ka e.x.dst fun d=>e'.x.dst != some d) &&
 (Gl (fun e' e=>EN ms e.i e'.i || (sR e'.x.op.kind e.x.op.kind && apart e'.x e.x)) L) &&
 (Gl (fun e' e=>!e.a.isSome || Ka e.x.dst fun d=>!e'.x.use.contains d) L) &&
 (L.all fun e=>e.x.op.kind != 3 && (!e.a.isSome || Ka e.x.dst fun d=>!e.x.use.contains d) && (e.x.op.kind != 1 || e.a.isNone)) &&
 ((List.range ops.size).all fun i=>match ops[i]? with|some o=>o.after.toList.all fun e=>!Region.binds .any e || decide (e.on<i)|none=>true) &&
 LN ops ms
theorem wH {L:List DEl} (h:(L.map (·.i)).Nodup) {e e':DEl} (he:e∈L) (he':e'∈L) (hi:e'.i=e.i):e'=e:=by
 induction L with
 | nil=>cases he
 | cons x r ih =>
  simp only [List.map_cons,List.nodup_cons,List.mem_map] at h
  cases he with
  | head =>
   cases he' with
   | head=>rfl
   | tail _ h2=>exact absurd ⟨e',h2,hi⟩ h.1
  | tail _ h1 =>
   cases he' with
   | head=>exact absurd ⟨e,h1,hi.symm⟩ h.1
   | tail _ h2=>exact ih h.2 h1 h2
theorem Ba {P:Program} {nt:Nat} {ops:Array Oper} {L:List DEl} (h:Je P nt ops L=true):ST P nt ops L (EN (Region.before ops)):=by
 simp only [Je,Bool.and_eq_true,List.all_eq_true,decide_eq_true_eq,Bool.or_eq_true,Bool.not_eq_true',bne_iff_ne,beq_iff_eq,List.any_eq_true,List.mem_range,Option.isNone_iff_eq_none] at h
 obtain ⟨⟨⟨⟨⟨⟨⟨⟨⟨⟨h1,h2⟩,h3⟩,h4⟩,h5⟩,h6⟩,h7⟩,h8⟩,h9⟩,h10⟩,h11⟩:=h
 have hnd:=zg h2
 refine ⟨h1,hnd,h3,fun i hi=>?_,fun e he iA ha=>?_,fun e he ha e' he' hne d hd=>?_,?_,?_,fun e he=>(h9 e he).1.1,fun e he ha d hd=>?_,fun e he hk=>?_,fun i o ho e he hb=>?_,fun j o ho i hi=>?_⟩
 ·obtain ⟨e,he,hc⟩:=h4 i hi
  rcases hc with hc|hc
  ·exact .inl ⟨e,he,hc⟩
  ·exact .inr ⟨e,he,hc⟩
 ·have:=h5 e he
  rw [ha] at this
  simp only [Bool.and_eq_true,List.all_eq_true,bne_iff_ne,Bool.or_eq_true,beq_iff_eq] at this
  refine ⟨this.1,fun e' he'=>⟨(this.2 e' he').1,fun hA=>?_⟩⟩
  rcases (this.2 e' he').2 with h|h
  ·exact absurd hA h
  ·exact wH hnd he he' h
 ·rcases h6 e he with h|h
  ·rw [ha] at h; cases h
  ·rcases h e' he' with h|h
   ·exact absurd (wH hnd he he' h) hne
   ·rw [hd] at h; simpa [Ka] using h
 ·refine (vO h7).imp fun {a b} hab=>?_
  simp only [Bool.or_eq_true,Bool.and_eq_true] at hab
  exact hab
 ·refine (vO h8).imp fun {a b} hab ha d hd=>?_
  simp only [Bool.or_eq_true,Bool.not_eq_true'] at hab
  rcases hab with h|h
  ·rw [ha] at h; cases h
  ·rw [hd] at h; simpa [Ka] using h
 ·rcases (h9 e he).1.2 with h|h
  ·rw [ha] at h; cases h
  ·rw [hd] at h; simpa [Ka] using h
 ·rcases (h9 e he).2 with h|h
  ·exact absurd hk h
  ·exact h
 ·have:=h10 i (Array.getElem?_eq_some_iff.1 ho).1
  rw [ho] at this
  simp only [List.all_eq_true,Bool.or_eq_true,Bool.not_eq_true',decide_eq_true_eq] at this
  rcases this e he with h|h
  ·rw [hb] at h; cases h
  ·exact h
 ·unfold LN at h11
  rw [List.all_eq_true] at h11
  have:=h11 j (List.mem_range.2 (Array.getElem?_eq_some_iff.1 ho).1)
  rw [ho] at this
  simp only [List.all_eq_true,List.mem_range,Bool.or_eq_true,Bool.not_eq_true',List.any_eq_true,Bool.and_eq_true,beq_iff_eq] at this
  have hlt:i<(Region.before ops).size:=by
   unfold EN at hi
   simp only [Bool.and_eq_true,decide_eq_true_eq] at hi
   exact hi.1
  rcases this i hlt with h|⟨e,he,hb,hc⟩
  ·rw [hi] at h; cases h
  ·exact ⟨e,he,hb,hc⟩
end Go.Ev
