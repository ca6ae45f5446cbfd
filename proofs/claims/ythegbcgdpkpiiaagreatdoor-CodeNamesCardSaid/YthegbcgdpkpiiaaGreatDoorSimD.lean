/- Regions in a fixed order, code, a frame from its start to its end. Conditions: none. -/
import Derived.Test.YthegbcgdpkpiiaaGreatDoorSimC
import Derived.AtR
import Derived.Defers
set_option linter.all false
/- Regions in a fixed order. Conditions: none. -/
set_option linter.unusedSimpArgs false
set_option linter.unusedVariables false
namespace Go.Sim

section
variable {P : Program} {tab : Tab}

/-- What a step comes to that carries out an operation of a frame. -/
def Goes (P : Program) (m : Machine) (fr : Frame) (cs : List Frame) : Result Next → Prop
  | .ok (.value v) w' => step P m = .next (lone (fr.finish v) cs w')
  | .ok .skip w' => step P m = .next (lone (fr.finish undef) cs w')
  | .ok (.enter f args) w' => step P m = .next (lone (Frame.enter P f args .normal) (fr :: cs) w')
  | .ok (.round l f tmps as body) w' => step P m = .next (lone (Frame.round l f tmps as body .normal) (fr :: cs) w')
  | .ok (.defer d) w' => step P m = .next (lone ({ fr with defers := d :: fr.defers }.finish undef) cs w')
  | .ok .recover w' => fr.roundOf = none → step P m = .next (match tryRecover fr cs with | some (v, cs') => lone (fr.finish v) cs' w' | none => lone (fr.finish .nilIface) cs w')
  | .halt (.panic v) w' => step P m = .next (lone (fr.raise [{ v, recovered := false }]) cs w')
  | _ => True

theorem goes_apply {fr0 fr : Frame} {cs : List Frame} {w : World} {s : Sem Next} (h : Go.stepG P true { frame := fr0, callers := cs, status := .running, dying := none } w = Go.stepG.apply P true fr cs none s w)
    (ht : (∃ ops l k, fr.todo = .inRegion ops l :: k) ∨ ∃ l k, fr.todo = .inRangeFunc l :: k) : Goes P (lone fr0 cs w) fr cs (s.run P w) := by
  obtain ⟨fn, tmps, todo, defers, mode, kind, ro⟩ := fr
  simp only at ht
  generalize hr : s.run P w = res
  rcases ht with ⟨ops, l, k, rfl⟩ | ⟨l, k, rfl⟩
  all_goals
    unfold Goes
    split <;> first
      | trivial
      | (refine step_lone_go ?_
         rw [h]; simp [Go.stepG.apply, hr]; done)
      | (intro hro
         simp only at hro
         subst hro
         split
         · rename_i hrec
           refine step_lone_go ?_
           rw [h]; simp [Go.stepG.apply, hr, hrec]
         · rename_i hrec
           refine step_lone_go ?_
           rw [h]; simp [Go.stepG.apply, hr, hrec])

theorem goes_op {b : Frame} {a : Act} {k : List Item} {cs : List Frame} {w : World} {ops : Array Oper} {i : Nat} {rest : List Nat} {o : Oper} (ho : ops[i]? = some o) (hw : Region.wanted o (yielded ops a.tmps) = true) :
    Goes P (lone (b.atR a (.inRegion ops (i :: rest) :: k)) cs w) (b.atR a (.inRegion ops (i :: rest) :: k)) cs ((o.semAt b.roundOf a.eval).run P w) :=
  goes_apply (stepGR_op ho hw) (.inl ⟨_, _, _, rfl⟩)

-- ---------------------------------------------------------------- the state of a frame
/-- What recover finds. -/
def RcR (P : Program) (g : G) (tok : Toks) (rc : Rc) (b : Frame) (cs0 cs : List Frame) : Prop :=
  match rc with
  | .off => cs = cs0 ∧ b.kind = .normal
  | .dfr => cs = cs0 ∧ b.kind = .deferred ∧ b.roundOf = none ∧ ∃ c rest, cs0 = c :: rest ∧ c.mode = .returning
  | .on v => cs = cs0 ∧ b.kind = .deferred ∧ b.roundOf = none ∧ ∃ c rest cv, cs0 = c :: rest ∧ c.mode = .panicking [{ v := cv, recovered := false }] ∧ VR P g tok v cv
  | .done => b.kind = .deferred ∧ b.roundOf = none ∧ ∃ c rest cv, cs0 = c :: rest ∧ c.mode = .panicking [{ v := cv, recovered := false }] ∧ cs = { c with mode := .panicking [{ v := cv, recovered := true }] } :: rest

/-- The deferred calls of a frame. -/
def DfL (P : Program) (g0 g : G) (tok : Toks) : List D → List Deferred → Prop
  | [], ds => ds = []
  | .coll :: l, ds => ∃ r ds', ds = { target := .collected r, args := #[] } :: ds' ∧ g.own r = .dfr ∧ g0.own r = .free ∧ (∀ d ∈ ds', d.target ≠ .collected r) ∧ DfL P g0 g tok l ds'
  | .fn f vs :: l, ds => ∃ d ds', ds = d :: ds' ∧ DfR P g tok f vs d ∧ (∃ id caps, f = .fn id caps) ∧ DfL P g0 g tok l ds'

theorem DfR.mono {g g' : G} {tok tok' : Toks} (e : Ext g tok g' tok') {f : V} {vs : List V} {d : Deferred} (h : DfR P g tok f vs d) : DfR P g' tok' f vs d := by
  obtain ⟨cargs, h1, h2, h3⟩ := h
  refine ⟨cargs, LR.mono e _ _ h1, h2, ?_⟩
  cases f with
  | fn id caps =>
    obtain ⟨cc, h4, h5⟩ := h3
    exact ⟨cc, LR.mono e _ _ h4, h5⟩
  | yld l =>
    obtain ⟨h4, h5⟩ := h3
    obtain ⟨e1, e2⟩ := e.lp l h5
    exact ⟨by rw [e1]; exact h4, by rw [e1]; exact e2⟩
  | _ => exact h3

theorem DfL.mono {g0 g g' : G} {tok tok' : Toks} (e : Ext g tok g' tok') : ∀ {l : List D} {ds : List Deferred}, DfL P g0 g tok l ds → DfL P g0 g' tok' l ds
  | [], ds, h => h
  | .coll :: l, ds, h => by
    obtain ⟨r, ds', h1, h2, h3, h4, h5⟩ := h
    exact ⟨r, ds', h1, e.dfr _ h2, h3, h4, DfL.mono e h5⟩
  | .fn f vs :: l, ds, h => by
    obtain ⟨d, ds', h1, h2, h3, h4⟩ := h
    exact ⟨d, ds', h1, h2.mono e, h3, DfL.mono e h4⟩

theorem RcR.mono {g g' : G} {tok tok' : Toks} (e : Ext g tok g' tok') {rc : Rc} {b : Frame} {cs0 cs : List Frame} (h : RcR P g tok rc b cs0 cs) : RcR P g' tok' rc b cs0 cs := by
  cases rc with
  | on v =>
    obtain ⟨h1, h2, h3, c, rest, cv, h4, h5, h6⟩ := h
    exact ⟨h1, h2, h3, c, rest, cv, h4, h5, VR.mono e _ _ h6⟩
  | _ => exact h

structure SR (P : Program) (tab : Tab) (n0 : Nat) (g0 : G) (h0 : H) (cs0 : List Frame) (b : Frame) (g : G) (s : St) (a : Act) (cs : List Frame) (w : World) : Prop where
  r : R P tab g s.h w
  tb : TabOK P tab g
  tm : TR P g s.h.tok s.tm a.tmps
  df : DfL P g0 g s.h.tok s.df a.defers
  keep : Keeps n0 g0 h0 g s.h s.es s.et
  hn : n0 ≤ s.h.blk.length
  rc : RcR P g s.h.tok s.rc b cs0 cs
  rnd : s.rnd = b.roundOf.isSome

theorem TR.putD {g : G} {tok : Toks} {tm : Tm} {a : Act} (hr : TR P g tok tm a.tmps) (d : Option Nat) {v : V} {c : Value} (hv : VR P g tok v c) : TR P g tok (putD tm d v) (a.put d c).tmps := by
  cases d with
  | none => exact hr
  | some i =>
    intro j hj
    simp only [Go.Sim.putD, Tm.has_put] at hj ⊢
    simp only [Act.put]
    by_cases e : i = j
    · subst e
      obtain ⟨c', hc', _⟩ := hr i hj
      have hlt := (Array.getElem?_eq_some_iff.1 hc').1
      exact ⟨c, by simp [hlt], by rw [Tm.get_put_same _ _ _ hj]; exact hv⟩
    · obtain ⟨c', hc', hv'⟩ := hr j hj
      exact ⟨c', by rw [Array.getElem?_setIfInBounds_ne e]; exact hc', by rw [Tm.get_put_other _ _ _ _ e]; exact hv'⟩

theorem put_defers (a : Act) (d : Option Nat) (v : Value) : (a.put d v).defers = a.defers := by
  cases d <;> rfl

theorem VR.undef {g : G} {tok : Toks} : VR P g tok undefV undef := by
  simp only [undefV, VR, LR]; exact ⟨[], rfl, rfl⟩

/-- Where a piece of code arrives. -/
def Arr (P : Program) (g : G) (tok : Toks) (m : Machine) (b : Frame) (k : List Item) (cs : List Frame) : X → Act → World → Prop
  | .norm, a, w => Steps P m (lone (b.atR a k) cs w)
  | .exit id, a, w => ∃ k1, exitTo id k1 = exitTo id k ∧ Steps P m (lone (b.atR a (.code (.exit id) :: k1)) cs w)
  | .ret, a, w => ∃ k1, Steps P m (lone (b.atR a (.code .ret :: k1)) cs w)
  | .pan v, a, w => ∃ c todo, VR P g tok v c ∧ (∀ d x r sv k, todo ≠ .call d x r sv :: k) ∧ Steps P m (lone { b.atR a todo with mode := .panicking [{ v := c, recovered := false }] } cs w)

theorem Arr.of_steps {g : G} {tok : Toks} {m m1 : Machine} {b : Frame} {k : List Item} {cs : List Frame} {x : X} {a : Act} {w : World} (h : Steps P m m1) (h' : Arr P g tok m1 b k cs x a w) : Arr P g tok m b k cs x a w := by
  cases x with
  | norm => exact h.trans h'
  | exit id => obtain ⟨k1, h1, h2⟩ := h'; exact ⟨k1, h1, h.trans h2⟩
  | ret => obtain ⟨k1, h2⟩ := h'; exact ⟨k1, h.trans h2⟩
  | pan v => obtain ⟨c, todo, h1, h3, h2⟩ := h'; exact ⟨c, todo, h1, h3, h.trans h2⟩

/-- What is asked of the calls. -/
def CallOK (P : Program) (tab : Tab) (call : Caller) : Prop :=
  ∀ f vs h out, call f vs .off h = some out → ∀ g w d, R P tab g h w → TabOK P tab g → DfR P g h.tok f vs d →
    ∀ (fr : Frame) (cs : List Frame) (m : Machine), fr.mode = .run → Goes P m fr cs ((invoke d.target d.args).run P w) →
      ∃ g' w' c, R P tab g' out.h w' ∧ Keeps h.blk.length g h g' out.h out.es out.et ∧
        match out.r with
        | .ret v => VR P g' out.h.tok v c ∧ Steps P m (lone (fr.finish c) cs w')
        | .pan v => VR P g' out.h.tok v c ∧ Steps P m (lone (fr.raise [{ v := c, recovered := false }]) cs w')

end

end Go.Sim

/- Regions in a fixed order: one operation after the other. Conditions: none. -/
set_option linter.unusedSimpArgs false
set_option linter.unusedVariables false
namespace Go.Sim

section
variable {P : Program} {tab : Tab} {n0 : Nat} {g0 : G} {h0 : H} {cs0 : List Frame} {b : Frame}

theorem dfr_only {o : Oper} {c : Call} (ho : o.op = .defer c) {A : A} {xs : List O} (hc : opA P tab o.op = some (A, xs)) : A = .dfr := by
  rw [ho] at hc
  obtain ⟨callee, args, ats⟩ := c
  cases callee <;> simp only [opA, reduceCtorEq] at hc
  exact (one_some hc).1.symm

theorem dfr_rs {vs : List V} {h h1 : H} {rs : Rs} (he : ex n0 .dfr vs h = some (rs, h1)) : ∃ f us, rs = .dfr f us := by
  simp only [ex] at he
  unfold exDfr at he
  split at he
  · simp only [Option.some.injEq, Prod.mk.injEq] at he; exact ⟨_, _, he.1.symm⟩
  · cases he

theorem inR_todo (ops : Array Oper) (l : List Nat) (k : List Item) : ∀ d x r sv k', (Item.inRegion ops l :: k) ≠ .call d x r sv :: k' := by simp

/-- What a step leaves as it was. -/
structure Kp (g : G) (h : H) (g' : G) (h' : H) : Prop where
  len : h.blk.length ≤ h'.blk.length
  back : ∀ b, b < h.blk.length → g'.own (g'.phi b) = .blk b → g.own (g.phi b) = .blk b
  lps : ∀ (l : Nat) (p' : Lp), h'.lps[l]? = some p' → ∃ p : Lp, h.lps[l]? = some p ∧ p'.core = p.core

theorem Kp.refl (g : G) (h : H) : Kp g h g h := ⟨Nat.le_refl _, fun _ _ h => h, fun _ p h => ⟨p, h, rfl⟩⟩
theorem Keeps.kp {n : Nat} {g g' : G} {h h' : H} {es et : Es} (k : Keeps n g h g' h' es et) : Kp g h g' h' := ⟨k.len, k.back, k.lps⟩

theorem step_ok2 {call : Caller} (hcall : CallOK P tab call) {g : G} {s s' : St} {a : Act} {cs : List Frame} {w : World} (S : SR P tab n0 g0 h0 cs0 b g s a cs w)
    {ops : Array Oper} {i : Nat} {rest : List Nat} {k : List Item} {o : Oper} (ho : ops[i]? = some o) (hw : Region.wanted o (yielded ops a.tmps) = true) {o1 : Op1} (hc : opA P tab o.op = some (o1.op, o1.args)) (hd : o1.dst = o.dst)
    {rs : Rs} {h1 : H} (he : ex n0 o1.op (o1.args.map (O.ev s.tm)) s.h = some (rs, h1)) {x : X} (hs : stepR call n0 o1 s h1 rs = some (x, s')) :
    ∃ g' a' cs' w', SR P tab n0 g0 h0 cs0 b g' s' a' cs' w' ∧ Ext g s.h.tok g' s'.h.tok ∧ Kp g s.h g' s'.h ∧ Arr P g' s'.h.tok (lone (b.atR a (.inRegion ops (i :: rest) :: k)) cs w) b (.inRegion ops rest :: k) cs' x a' w' := by
  have hgo := goes_op (P := P) (b := b) (k := k) (cs := cs) (w := w) (rest := rest) ho hw
  have hsem : o.semAt b.roundOf a.eval = execOp a.eval o ∨ ∃ l, b.roundOf = some l ∧ ∃ f us, rs = .dfr f us := by
    cases hb : b.roundOf with
    | none => left; rfl
    | some l =>
      by_cases hdf : ∃ c, o.op = .defer c
      · obtain ⟨c, hdf⟩ := hdf
        have := dfr_only hdf hc
        rw [this] at he
        exact .inr ⟨l, rfl, dfr_rs he⟩
      · left; exact Oper.semAt_eq _ _ _ fun c hc' => hdf ⟨c, hc'⟩
  rcases hsem with hsem | ⟨l, hb, f, us, rfl⟩
  · rw [hsem] at hgo
    have hout := ex_ok S.r S.tb S.tm S.hn hc he
    have hfin : ∀ v, (b.atR a (.inRegion ops (i :: rest) :: k)).finish v = b.atR (a.put o1.dst v) (.inRegion ops rest :: k) := fun v => by
      rw [Frame.finish_atR, ho, hd]; rfl
    cases rs with
    | val v =>
      obtain ⟨c, w1, g1, hres, r1, k1, hv⟩ := hout
      simp only [stepR, Option.some.injEq, Prod.mk.injEq] at hs
      obtain ⟨rfl, rfl⟩ := hs
      rw [hres] at hgo
      refine ⟨g1, a.put o1.dst c, cs, w1, ⟨r1, S.tb.mono k1.ext, TR.putD (S.tm.mono k1.ext) _ hv, ?_, ?_, ?_, S.rc.mono k1.ext, S.rnd⟩, k1.ext, k1.kp, ?_⟩
      · rw [put_defers]; exact S.df.mono k1.ext
      · simpa using S.keep.trans k1
      · exact Nat.le_trans S.hn k1.len
      · exact .one (by rw [← hfin]; exact hgo)
    | done es et =>
      obtain ⟨w1, g1, hres, r1, k1⟩ := hout
      simp only [stepR, Option.some.injEq, Prod.mk.injEq] at hs
      obtain ⟨rfl, rfl⟩ := hs
      rw [hres] at hgo
      refine ⟨g1, a.put o1.dst undef, cs, w1, ⟨r1, S.tb.mono k1.ext, TR.putD (S.tm.mono k1.ext) _ VR.undef, ?_, ?_, ?_, S.rc.mono k1.ext, S.rnd⟩, k1.ext, k1.kp, ?_⟩
      · rw [put_defers]; exact S.df.mono k1.ext
      · exact S.keep.trans k1
      · exact Nat.le_trans S.hn k1.len
      · exact .one (by rw [← hfin]; exact hgo)
    | pan v =>
      obtain ⟨c, hres, hv, rfl⟩ := hout
      simp only [stepR, Option.some.injEq, Prod.mk.injEq] at hs
      obtain ⟨rfl, rfl⟩ := hs
      rw [hres] at hgo
      exact ⟨g, a, cs, w, ⟨S.r, S.tb, S.tm, S.df, S.keep, S.hn, S.rc, S.rnd⟩, Ext.refl _ _, Kp.refl _ _, c, .inRegion ops (i :: rest) :: k, hv, inR_todo _ _ _, .one (by rw [← Frame.raise_atR]; exact hgo)⟩
    | dfr f vs =>
      obtain ⟨d, hres, hdr, rfl, hk⟩ := hout
      simp only [stepR] at hs
      split at hs
      · cases hs
      · simp only [Option.some.injEq, Prod.mk.injEq] at hs
        obtain ⟨rfl, rfl⟩ := hs
        rw [hres] at hgo
        refine ⟨g, { a with defers := d :: a.defers }.put o1.dst undef, cs, w, ⟨S.r, S.tb, TR.putD (a := { a with defers := d :: a.defers }) S.tm _ VR.undef, ?_, S.keep, S.hn, S.rc, S.rnd⟩, Ext.refl _ _, Kp.refl _ _, ?_⟩
        · rw [put_defers]; exact ⟨d, a.defers, rfl, hdr, hk, S.df⟩
        · refine .one ?_
          have h2 : ({ b.atR a (.inRegion ops (i :: rest) :: k) with defers := d :: a.defers } : Frame).finish undef = b.atR ({ a with defers := d :: a.defers }.put o1.dst undef) (.inRegion ops rest :: k) := by
            have := Frame.finish_atR b { a with defers := d :: a.defers } ops i rest k undef
            rw [ho] at this; rw [hd]; exact this
          rw [← h2]; exact hgo
    | recov =>
      obtain ⟨hres, rfl⟩ := hout
      rw [hres] at hgo
      simp only [stepR] at hs
      split at hs
      · cases hs
      · rename_i hrnd
        have hro : b.roundOf = none := by
          have := S.rnd
          cases hb : b.roundOf with
          | none => rfl
          | some l => rw [hb] at this; simp at this; exact absurd this hrnd
        have hgo := hgo hro
        have hrc := S.rc
        have nil : tryRecover (b.atR a (.inRegion ops (i :: rest) :: k)) cs = none → (∀ v, s.rc ≠ .on v) →
            ∃ g' a' cs' w', SR P tab n0 g0 h0 cs0 b g' s' a' cs' w' ∧ Ext g s.h.tok g' s'.h.tok ∧ Kp g s.h g' s'.h ∧ Arr P g' s'.h.tok (lone (b.atR a (.inRegion ops (i :: rest) :: k)) cs w) b (.inRegion ops rest :: k) cs' x a' w' := by
          intro ht hno
          rw [ht] at hgo
          split at hs
          · rename_i v hv
            exact absurd hv (hno v)
          · simp only [Option.some.injEq, Prod.mk.injEq] at hs
            obtain ⟨rfl, rfl⟩ := hs
            refine ⟨g, a.put o1.dst .nilIface, cs, w, ⟨S.r, S.tb, TR.putD S.tm _ (by simp only [VR]), by rw [put_defers]; exact S.df, S.keep, S.hn, S.rc, S.rnd⟩, Ext.refl _ _, Kp.refl _ _, ?_⟩
            exact .one (by rw [← hfin]; exact hgo)
        cases hrcv : s.rc with
        | off =>
          rw [hrcv] at hrc
          obtain ⟨rfl, hk⟩ := hrc
          exact nil (by unfold tryRecover; simp only [Frame.atR, hk]) (by simp [hrcv])
        | dfr =>
          rw [hrcv] at hrc
          obtain ⟨rfl, hk, _, c, rest', hc, hm⟩ := hrc
          exact nil (by unfold tryRecover; simp only [Frame.atR, hk, hc, hm]) (by simp [hrcv])
        | done =>
          rw [hrcv] at hrc
          obtain ⟨hk, _, c, rest', cv, hc, hm, rfl⟩ := hrc
          exact nil (by unfold tryRecover; simp only [Frame.atR, hk]) (by simp [hrcv])
        | on v =>
          rw [hrcv] at hrc hs
          obtain ⟨rfl, hk, hro', c, rest', cv, hc, hm, hv⟩ := hrc
          simp only [Option.some.injEq, Prod.mk.injEq] at hs
          obtain ⟨rfl, rfl⟩ := hs
          have ht : tryRecover (b.atR a (.inRegion ops (i :: rest) :: k)) cs = some (cv, { c with mode := .panicking [{ v := cv, recovered := true }] } :: rest') := by
            unfold tryRecover; simp only [Frame.atR, hk, hc, hm]
          rw [ht] at hgo
          refine ⟨g, a.put o1.dst cv, _, w, ⟨S.r, S.tb, TR.putD S.tm _ hv, by rw [put_defers]; exact S.df, S.keep, S.hn, ⟨hk, hro', c, rest', cv, hc, hm, rfl⟩, S.rnd⟩, Ext.refl _ _, Kp.refl _ _, ?_⟩
          exact .one (by rw [← hfin]; exact hgo)
    | call f vs =>
      obtain ⟨d, hres, hdr, rfl⟩ := hout
      rw [hres] at hgo
      simp only [stepR] at hs
      split at hs
      · cases hs
      · rename_i u hu
        obtain ⟨g1, w1, c, r1, k1, hfr⟩ := hcall f vs s.h u hu g w d S.r S.tb hdr _ cs _ rfl hgo
        have k2 := k1.down S.hn
        split at hs
        · rename_i v hv
          simp only [Option.some.injEq, Prod.mk.injEq] at hs
          obtain ⟨rfl, rfl⟩ := hs
          rw [hv] at hfr
          obtain ⟨hvr, hst⟩ := hfr
          refine ⟨g1, a.put o1.dst c, cs, w1, ⟨r1, S.tb.mono k1.ext, TR.putD (S.tm.mono k1.ext) _ hvr, ?_, S.keep.trans k2, Nat.le_trans S.hn k1.len, S.rc.mono k1.ext, S.rnd⟩, k1.ext, k1.kp, ?_⟩
          · rw [put_defers]; exact S.df.mono k1.ext
          · show Steps _ _ _
            rw [← hfin]; exact hst
        · rename_i v hv
          simp only [Option.some.injEq, Prod.mk.injEq] at hs
          obtain ⟨rfl, rfl⟩ := hs
          rw [hv] at hfr
          obtain ⟨hvr, hst⟩ := hfr
          refine ⟨g1, a, cs, w1, ⟨r1, S.tb.mono k1.ext, S.tm.mono k1.ext, S.df.mono k1.ext, S.keep.trans k2, Nat.le_trans S.hn k1.len, S.rc.mono k1.ext, S.rnd⟩, k1.ext, k1.kp, c, .inRegion ops (i :: rest) :: k, hvr, inR_todo _ _ _, ?_⟩
          rw [← Frame.raise_atR]; exact hst
  · exfalso
    have hr : s.rnd = true := by rw [S.rnd, hb]; rfl
    simp [stepR, hr] at hs


theorem step_ok {call : Caller} (hcall : CallOK P tab call) {g : G} {s s' : St} {a : Act} {cs : List Frame} {w : World} (S : SR P tab n0 g0 h0 cs0 b g s a cs w)
    {ops : Array Oper} {i : Nat} {rest : List Nat} {k : List Item} {o : Oper} (ho : ops[i]? = some o) (hw : Region.wanted o (yielded ops a.tmps) = true) {o1 : Op1} (hc : opA P tab o.op = some (o1.op, o1.args)) (hd : o1.dst = o.dst)
    {rs : Rs} {h1 : H} (he : ex n0 o1.op (o1.args.map (O.ev s.tm)) s.h = some (rs, h1)) {x : X} (hs : stepR call n0 o1 s h1 rs = some (x, s')) :
    ∃ g' a' cs' w', SR P tab n0 g0 h0 cs0 b g' s' a' cs' w' ∧ Ext g s.h.tok g' s'.h.tok ∧ Arr P g' s'.h.tok (lone (b.atR a (.inRegion ops (i :: rest) :: k)) cs w) b (.inRegion ops rest :: k) cs' x a' w' := by
  obtain ⟨g', a', cs', w', h1, h2, _, h3⟩ := step_ok2 hcall S (rest := rest) (k := k) ho hw hc hd he hs
  exact ⟨g', a', cs', w', h1, h2, h3⟩

/-- An operation and what it was compiled to. -/
def OperR (P : Program) (tab : Tab) (ops : Array Oper) (i : Nat) (o1 : Op1) : Prop :=
  ∃ o, ops[i]? = some o ∧ opA P tab o.op = some (o1.op, o1.args) ∧ o1.dst = o.dst ∧
    match o.guard with
    | none => o1.grd = none
    | some (j, w) => ∃ t, (ops[j]?).bind (·.dst) = some t ∧ o1.grd = some (t, w)

theorem oper_R {ops : Array Oper} {i : Nat} {o : Oper} (ho : ops[i]? = some o) {o1 : Op1} {bef : List Nat} (hc : oper P tab ops.toList o bef = some o1) : OperR P tab ops i o1 := by
  simp only [oper, Option.bind_eq_some_iff] at hc
  obtain ⟨⟨A, xs⟩, h1, hc⟩ := hc
  refine ⟨o, ho, ?_⟩
  simp only at hc
  cases hg : o.guard with
  | none =>
    rw [hg] at hc
    simp only [Option.some.injEq] at hc
    subst hc
    exact ⟨h1, rfl, rfl⟩
  | some p =>
    obtain ⟨j, w⟩ := p
    rw [hg] at hc
    simp only [Option.map_eq_some_iff] at hc
    obtain ⟨t, h2, rfl⟩ := hc
    exact ⟨h1, rfl, t, by simpa using h2, rfl⟩

theorem wanted_ok {g : G} {tok : Toks} {tm : Tm} {a : Act} (hr : TR P g tok tm a.tmps) {ops : Array Oper} {o : Oper} {grd : Option (Nat × Bool)}
    (hg : match o.guard with | none => grd = none | some (j, w) => ∃ t, (ops[j]?).bind (·.dst) = some t ∧ grd = some (t, w)) {q : Bool} (h : wanted grd tm = some q) : Region.wanted o (yielded ops a.tmps) = q := by
  unfold Region.wanted
  cases hgd : o.guard with
  | none =>
    rw [hgd] at hg
    simp only at hg
    subst hg
    simpa [wanted] using h
  | some p =>
    obtain ⟨j, want⟩ := p
    rw [hgd] at hg
    obtain ⟨t, ht, rfl⟩ := hg
    simp only [wanted] at h
    have hy : yielded ops a.tmps j = match a.tmps[t]? with | some (.bool b) => some b | _ => none := by
      unfold yielded
      rw [ht]; rfl
    have hhas : tm.has t = true := by
      cases hh : tm.has t with
      | true => rfl
      | false => rw [Tm.get_not_has _ _ hh] at h; simp at h
    obtain ⟨c, hc, hv⟩ := hr t hhas
    show (yielded ops a.tmps j == some want) = q
    rw [hy, hc]
    split at h
    · rename_i b' hb
      rw [hb] at hv
      simp only [VR] at hv
      subst hv
      simpa using h
    · rename_i vs hb
      rw [hb] at hv
      simp only [VR] at hv
      obtain ⟨cvs, rfl, _⟩ := hv
      simpa using h
    · cases h

theorem stepV_eq (call : Caller) (o : Op1) (kk : St → Option (X × St)) (s : St) (h : H) (rs : Rs) :
    stepV call n0 o kk s h rs = match stepR call n0 o s h rs with | some (.norm, s) => kk s | r => r := by
  cases rs <;> rfl

theorem runOps_ok {call : Caller} (hcall : CallOK P tab call) {ops : Array Oper} {k : List Item} : ∀ (os : List Op1) (l : List Nat), l.length = os.length → (∀ (j i : Nat) (o1 : Op1), l[j]? = some i → os[j]? = some o1 → OperR P tab ops i o1) →
    ∀ {g : G} {s s' : St} {a : Act} {cs : List Frame} {w : World} {x : X}, SR P tab n0 g0 h0 cs0 b g s a cs w → runOps call n0 os s = some (x, s') →
      ∃ g' a' cs' w', SR P tab n0 g0 h0 cs0 b g' s' a' cs' w' ∧ Ext g s.h.tok g' s'.h.tok ∧ Arr P g' s'.h.tok (lone (b.atR a (.inRegion ops l :: k)) cs w) b k cs' x a' w'
  | [], l, hlen, _, g, s, s', a, cs, w, x, S, hs => by
    have : l = [] := by simpa using hlen
    subst this
    simp only [runOps, Option.some.injEq, Prod.mk.injEq] at hs
    obtain ⟨rfl, rfl⟩ := hs
    exact ⟨g, a, cs, w, S, Ext.refl _ _, .one stepR_region_end⟩
  | o1 :: os, l, hlen, hR, g, s, s', a, cs, w, x, S, hs => by
    cases l with
    | nil => simp at hlen
    | cons i rest =>
      obtain ⟨o, ho, hc, hd, hg⟩ := hR 0 i o1 (by simp) (by simp)
      have ih := fun {g : G} {s s' : St} {a : Act} {cs : List Frame} {w : World} {x : X} => runOps_ok hcall (ops := ops) (k := k) os rest (by simpa using hlen) (fun j i' o' h1 h2 => hR (j + 1) i' o' (by simpa using h1) (by simpa using h2)) (g := g) (s := s) (s' := s') (a := a) (cs := cs) (w := w) (x := x)
      -- the operation is wanted
      have yes : wanted o1.grd s.tm = some true → stepO call n0 o1 (runOps call n0 os) s = some (x, s') →
          ∃ g' a' cs' w', SR P tab n0 g0 h0 cs0 b g' s' a' cs' w' ∧ Ext g s.h.tok g' s'.h.tok ∧ Arr P g' s'.h.tok (lone (b.atR a (.inRegion ops (i :: rest) :: k)) cs w) b k cs' x a' w' := by
        intro hw hs
        have hw' := wanted_ok S.tm hg hw
        unfold stepO at hs
        split at hs
        · cases hs
        · rename_i p he
          rw [stepV_eq] at hs
          split at hs
          · rename_i s1 hr
            obtain ⟨g1, a1, cs1, w1, S1, e1, h1⟩ := step_ok hcall S (rest := rest) (k := k) ho hw' hc hd he hr
            obtain ⟨g2, a2, cs2, w2, S2, e2, h2⟩ := ih S1 hs
            exact ⟨g2, a2, cs2, w2, S2, e1.trans e2, h2.of_steps h1⟩
          · rename_i hnorm
            obtain ⟨g1, a1, cs1, w1, S1, e1, h1⟩ := step_ok hcall S (rest := rest) (k := k) ho hw' hc hd he hs
            refine ⟨g1, a1, cs1, w1, S1, e1, ?_⟩
            cases x with
            | norm => exact absurd hs (hnorm _)
            | exit id => obtain ⟨k1, h2, h3⟩ := h1; exact ⟨k1, h2, h3⟩
            | ret => exact h1
            | pan v => exact h1
      have no : wanted o1.grd s.tm = some false → runOps call n0 os { s with tm := putD s.tm o1.dst undefV } = some (x, s') →
          ∃ g' a' cs' w', SR P tab n0 g0 h0 cs0 b g' s' a' cs' w' ∧ Ext g s.h.tok g' s'.h.tok ∧ Arr P g' s'.h.tok (lone (b.atR a (.inRegion ops (i :: rest) :: k)) cs w) b k cs' x a' w' := by
        intro hw hs
        have hw' := wanted_ok S.tm hg hw
        have hstep := stepR_op_skip (P := P) (b := b) (a := a) (k := k) (cs := cs) (w := w) (ops := ops) (i := i) (rest := rest) (by simp [ho, hw'])
        simp only [ho, Option.bind_some] at hstep
        rw [← hd] at hstep
        obtain ⟨g2, a2, cs2, w2, S2, e2, h2⟩ := ih (s := { s with tm := putD s.tm o1.dst undefV }) (a := a.put o1.dst undef) (cs := cs) (w := w) ⟨S.r, S.tb, TR.putD S.tm _ VR.undef, by rw [put_defers]; exact S.df, S.keep, S.hn, S.rc, S.rnd⟩ hs
        exact ⟨g2, a2, cs2, w2, S2, e2, h2.of_steps (.one hstep)⟩
      simp only [runOps, stepK] at hs
      split at hs
      · rename_i hn
        exact yes (by rw [hn]; rfl) hs
      · rename_i gg hn
        unfold Go.Sim.stepG at hs
        split at hs
        · cases hs
        · rename_i hw; exact no (by rw [hn]; exact hw) hs
        · rename_i hw; exact yes (by rw [hn]; exact hw) hs

end

end Go.Sim

/- Code. Conditions: none. -/
set_option linter.unusedSimpArgs false
set_option linter.unusedVariables false
namespace Go.Sim

section
variable {P : Program} {tab : Tab} {n0 : Nat} {g0 : G} {h0 : H} {cs0 : List Frame} {b : Frame}

/-- What a piece of code comes to. -/
def CodeOK (P : Program) (tab : Tab) (n0 : Nat) (g0 : G) (h0 : H) (cs0 : List Frame) (b : Frame) (run : St → Option (X × St)) (c : Code) : Prop :=
  ∀ (k : List Item) (g : G) (s s' : St) (a : Act) (cs : List Frame) (w : World) (x : X), SR P tab n0 g0 h0 cs0 b g s a cs w → run s = some (x, s') →
    ∃ g' a' cs' w', SR P tab n0 g0 h0 cs0 b g' s' a' cs' w' ∧ Ext g s.h.tok g' s'.h.tok ∧ Arr P g' s'.h.tok (lone (b.atR a (.code c :: k)) cs w) b k cs' x a' w'

theorem reg_ok {call : Caller} (hcall : CallOK P tab call) (id : Nat) (ops : Array Oper) {os : List Op1} (hos : allSome (ops.toList.map fun o => oper P tab ops.toList o []) = some os) :
    CodeOK P tab n0 g0 h0 cs0 b (runOps call n0 os) (.region id ops false) := by
  intro k g s s' a cs w x S hs
  obtain ⟨hlen, hget⟩ := allSome_map _ _ _ hos
  obtain ⟨g', a', cs', w', S', e', h'⟩ := runOps_ok hcall (ops := ops) (k := k) os (List.range ops.size) (by simp [hlen]) (fun j i o1 hj ho1 => by
    have hlt : j < ops.size := by
      have := (List.getElem?_eq_some_iff.1 hj).1; simpa using this
    have hij : i = j := by
      rw [List.getElem?_range hlt] at hj; cases hj; rfl
    subst hij
    obtain ⟨o, ho⟩ : ∃ o, ops[i]? = some o := ⟨ops[i], Array.getElem?_eq_getElem hlt⟩
    obtain ⟨y, hy, hy'⟩ := hget i o (by simpa using ho)
    rw [ho1] at hy; cases hy
    exact oper_R ho hy') S hs
  exact ⟨g', a', cs', w', S', e', h'.of_steps (.one stepR_region)⟩

theorem boolOp {g : G} {s : St} {a : Act} {cs : List Frame} {w : World} (S : SR P tab n0 g0 h0 cs0 b g s a cs w) {c : Operand} {o : O} (hc : operand tab c = some o) {t : Bool} (ht : boolOf (o.ev s.tm) = some t) : a.eval c = .bool t := by
  have hv := operand_ok S.tb S.tm hc
  rw [boolOf_some ht] at hv
  simpa only [VR] using hv

theorem loop_ok {rn : St → Option (X × St)} {c : Code} (h : CodeOK P tab n0 g0 h0 cs0 b rn c) : ∀ (n : Nat) (k : List Item) (g : G) (s s' : St) (a : Act) (cs : List Frame) (w : World) (x : X), SR P tab n0 g0 h0 cs0 b g s a cs w → loopIt rn n s = some (x, s') →
    ∃ g' a' cs' w', SR P tab n0 g0 h0 cs0 b g' s' a' cs' w' ∧ Ext g s.h.tok g' s'.h.tok ∧ Arr P g' s'.h.tok (lone (b.atR a (.code c :: .inLoop c :: k)) cs w) b k cs' x a' w' := by
  intro n
  induction n with
  | zero => intro k g s s' a cs w x S hs; simp [loopIt] at hs
  | succ n ih =>
    intro k g s s' a cs w x S hs
    simp only [loopIt] at hs
    split at hs
    · rename_i s1 h1
      rw [forceT_eq] at hs
      obtain ⟨g1, a1, cs1, w1, S1, e1, r1⟩ := h (.inLoop c :: k) g s s1 a cs w .norm S h1
      obtain ⟨g2, a2, cs2, w2, S2, e2, r2⟩ := ih k g1 s1 s' a1 cs1 w1 x S1 hs
      exact ⟨g2, a2, cs2, w2, S2, e1.trans e2, r2.of_steps (r1.trans (.one stepR_inLoop))⟩
    · rename_i hn
      obtain ⟨g1, a1, cs1, w1, S1, e1, r1⟩ := h (.inLoop c :: k) g s s' a cs w x S hs
      refine ⟨g1, a1, cs1, w1, S1, e1, ?_⟩
      cases x with
      | norm => exact absurd hs (hn _)
      | exit id => obtain ⟨k1, h2, h3⟩ := r1; exact ⟨k1, h2, h3⟩
      | ret => exact r1
      | pan v => exact r1

/-- The parts of the code that are proved apart. -/
structure PartsOK (P : Program) (tab : Tab) (n0 : Nat) (g0 : G) (h0 : H) (cs0 : List Frame) (b : Frame) (E : Env) (call : Caller) (fuel : Nat) : Prop where
  draw : ∀ id ops os, allSome ((ops.toList.zip (befs ops.toList)).map fun (o, b) => oper P tab ops.toList o b) = some os → drawOk os = true → aftOk ops.toList = true → CodeOK P tab n0 g0 h0 cs0 b (drawOps call E.wr n0 os) (.region id ops true)
  range : ∀ (f : Operand) (ps : Array Tmp) (as body : Code) (o : O), operand tab f = some o → CodeOK P tab n0 g0 h0 cs0 b (run E call fuel n0 (.rangeF o ps.toList (code P tab as) (code P tab body))) (.rangeFunc f ps as body)

theorem run_ok {E : Env} {call : Caller} {fuel : Nat} (hcall : CallOK P tab call) (hp : PartsOK P tab n0 g0 h0 cs0 b E call fuel) : ∀ c : Code, CodeOK P tab n0 g0 h0 cs0 b (run E call fuel n0 (code P tab c)) c
  | .skip => fun k g s s' a cs w x S hs => by
    simp only [code, run, Option.some.injEq, Prod.mk.injEq] at hs
    obtain ⟨rfl, rfl⟩ := hs
    exact ⟨g, a, cs, w, S, Ext.refl _ _, .one stepR_skip⟩
  | .region id ops draw => fun k g s s' a cs w x S hs => by
    simp only [code] at hs
    split at hs
    · rename_i hd
      subst hd
      split at hs
      · simp [run] at hs
      · rename_i os hos
        split at hs
        · rename_i hdo
          simp only [run] at hs
          rw [Bool.and_eq_true] at hdo
          exact hp.draw id ops os hos hdo.1 hdo.2 k g s s' a cs w x S hs
        · simp [run] at hs
    · rename_i hd
      have hd : draw = false := by simpa using hd
      subst hd
      split at hs
      · simp [run] at hs
      · rename_i os hos
        simp only [run] at hs
        exact reg_ok hcall id ops hos k g s s' a cs w x S hs
  | .seq c1 c2 => fun k g s s' a cs w x S hs => by
    simp only [code, run] at hs
    split at hs
    · rename_i s1 h1
      obtain ⟨g1, a1, cs1, w1, S1, e1, r1⟩ := run_ok hcall hp c1 (.code c2 :: k) g s s1 a cs w .norm S h1
      obtain ⟨g2, a2, cs2, w2, S2, e2, r2⟩ := run_ok hcall hp c2 k g1 s1 s' a1 cs1 w1 x S1 hs
      exact ⟨g2, a2, cs2, w2, S2, e1.trans e2, r2.of_steps (.head stepR_seq r1)⟩
    · rename_i hn
      obtain ⟨g1, a1, cs1, w1, S1, e1, r1⟩ := run_ok hcall hp c1 (.code c2 :: k) g s s' a cs w x S hs
      refine ⟨g1, a1, cs1, w1, S1, e1, ?_⟩
      cases x with
      | norm => exact absurd hs (hn _)
      | exit id => obtain ⟨k1, h2, h3⟩ := r1; exact ⟨k1, h2, .head stepR_seq h3⟩
      | ret => obtain ⟨k1, h3⟩ := r1; exact ⟨k1, .head stepR_seq h3⟩
      | pan v => exact Arr.of_steps (x := .pan v) (.one stepR_seq) r1
  | .cond c c1 c2 => fun k g s s' a cs w x S hs => by
    simp only [code] at hs
    split at hs
    · rename_i o ho
      simp only [run] at hs
      split at hs
      · rename_i hb
        have hv := boolOp S ho hb
        obtain ⟨g1, a1, cs1, w1, S1, e1, r1⟩ := run_ok hcall hp c1 k g s s' a cs w x S hs
        exact ⟨g1, a1, cs1, w1, S1, e1, r1.of_steps (.one (stepR_cond hv))⟩
      · rename_i hb
        have hv := boolOp S ho hb
        obtain ⟨g1, a1, cs1, w1, S1, e1, r1⟩ := run_ok hcall hp c2 k g s s' a cs w x S hs
        exact ⟨g1, a1, cs1, w1, S1, e1, r1.of_steps (.one (stepR_cond hv))⟩
      · cases hs
    · simp [run] at hs
  | .block id c => fun k g s s' a cs w x S hs => by
    simp only [code, run] at hs
    split at hs
    · rename_i i s1 h1
      obtain ⟨g1, a1, cs1, w1, S1, e1, r1⟩ := run_ok hcall hp c (.inBlock id :: k) g s s1 a cs w (.exit i) S h1
      obtain ⟨k1, h2, h3⟩ := r1
      split at hs
      · rename_i hi
        subst hi
        simp only [Option.some.injEq, Prod.mk.injEq] at hs
        obtain ⟨rfl, rfl⟩ := hs
        refine ⟨g1, a1, cs1, w1, S1, e1, ?_⟩
        have : exitTo i k1 = some k := by rw [h2]; simp [exitTo]
        exact .head stepR_block (h3.trans (.one (stepR_exit this)))
      · rename_i hi
        simp only [Option.some.injEq, Prod.mk.injEq] at hs
        obtain ⟨rfl, rfl⟩ := hs
        refine ⟨g1, a1, cs1, w1, S1, e1, k1, ?_, .head stepR_block h3⟩
        rw [h2]
        have : (id == i) = false := by simpa using fun e => hi (Eq.symm e)
        simp [exitTo, this]
    · rename_i hn
      obtain ⟨g1, a1, cs1, w1, S1, e1, r1⟩ := run_ok hcall hp c (.inBlock id :: k) g s s' a cs w x S hs
      refine ⟨g1, a1, cs1, w1, S1, e1, ?_⟩
      cases x with
      | norm => exact .head stepR_block (r1.trans (.one stepR_inBlock))
      | exit i => exact absurd hs (hn _ _)
      | ret => obtain ⟨k1, h3⟩ := r1; exact ⟨k1, .head stepR_block h3⟩
      | pan v => exact Arr.of_steps (x := .pan v) (.one stepR_block) r1
  | .loop c => fun k g s s' a cs w x S hs => by
    simp only [code, run] at hs
    obtain ⟨g1, a1, cs1, w1, S1, e1, r1⟩ := loop_ok (run_ok hcall hp c) fuel k g s s' a cs w x S hs
    exact ⟨g1, a1, cs1, w1, S1, e1, r1.of_steps (.one stepR_loop)⟩
  | .rangeFunc f ps as body => fun k g s s' a cs w x S hs => by
    simp only [code] at hs
    split at hs
    · rename_i o ho
      exact hp.range f ps as body o ho k g s s' a cs w x S hs
    · simp [run] at hs
  | .exit id => fun k g s s' a cs w x S hs => by
    simp only [code, run, Option.some.injEq, Prod.mk.injEq] at hs
    obtain ⟨rfl, rfl⟩ := hs
    exact ⟨g, a, cs, w, S, Ext.refl _ _, k, rfl, .refl _ _⟩
  | .ret => fun k g s s' a cs w x S hs => by
    simp only [code, run, Option.some.injEq, Prod.mk.injEq] at hs
    obtain ⟨rfl, rfl⟩ := hs
    exact ⟨g, a, cs, w, S, Ext.refl _ _, k, .refl _ _⟩
  | .scope c => fun k g s s' a cs w x S hs => by simp [code, run] at hs
  | .goto l => fun k g s s' a cs w x S hs => by simp [code, run] at hs
  | .label l => fun k g s s' a cs w x S hs => by simp [code, run] at hs
  | .refuse r => fun k g s s' a cs w x S hs => by simp [code, run] at hs

end

end Go.Sim

/- The marks of loops, taken. Conditions: none. -/
set_option linter.unusedSimpArgs false
set_option linter.unusedVariables false
namespace Go.Sim

/-- What values ask for to last. -/
structure ExtV (g : G) (tok : Toks) (g' : G) (tok' : Toks) : Prop where
  at_ : ∀ B o v, g.at B o = some v → g'.at B o = some v
  blk : ∀ b, g.own (g.phi b) = .blk b → g'.phi b = g.phi b ∧ g'.own (g.phi b) = .blk b
  lp : ∀ l, g.own (g.lp l) = .lp l → g'.lp l = g.lp l ∧ g'.own (g.lp l) = .lp l
  row : ∀ B ty f t, g.own B = .row ty f t → ∃ f' t', g'.own B = .row ty f' t'
  tok : ∀ t m ty, tok[t]? = some (m, ty) → ∃ m', tok'[t]? = some (m', ty) ∧ m ≤ m' ∧ (m' = m → g'.tk t = g.tk t)

section
variable {P : Program} {g g' : G} {tok tok' : Toks}

theorem GrR.monoV (e : ExtV g tok g' tok') {n : Nat} {gr : Gr} {a : Option Addr} {c : Nat} (h : GrR P g tok n gr a c) : GrR P g' tok' n gr a c := by
  cases gr with
  | tok t k =>
    obtain ⟨m, ty, hm, hle, hf⟩ := h
    obtain ⟨m', hm', hle', hk⟩ := e.tok t m ty hm
    refine ⟨m', ty, hm', by omega, fun he => ?_⟩
    obtain ⟨o, ha, h1, h2, h3⟩ := hf (by omega)
    have := hk (by omega)
    exact ⟨o, by rw [this]; exact ha, h1, by rw [this]; exact h2, by rw [this]; exact h3⟩
  | _ => exact h

mutual
theorem VR.monoV (e : ExtV g tok g' tok') : ∀ (v : V) (c : Value), VR P g tok v c → VR P g' tok' v c
  | .bool _, _, h | .int _ _, _, h | .str _, _, h | .nilp, _, h | .nilfn, _, h | .nilifc, _, h => by simpa only [VR] using h
  | .junk, _, _ => by simp only [VR]
  | .pblk b o, c, h => by
    simp only [VR] at h ⊢
    obtain ⟨h1, h2⟩ := h
    obtain ⟨e1, e2⟩ := e.blk b h2
    rw [e1]; exact ⟨h1, e2⟩
  | .ms b o n m k, c, h => by
    simp only [VR] at h ⊢
    obtain ⟨h1, h3, h2⟩ := h
    obtain ⟨e1, e2⟩ := e.blk b h2
    rw [e1]; exact ⟨h1, h3, e2⟩
  | .yld l, c, h => by
    simp only [VR] at h ⊢
    obtain ⟨h1, h2⟩ := h
    obtain ⟨e1, e2⟩ := e.lp l h2
    rw [e1]; exact ⟨h1, e2⟩
  | .pimm cs, c, h => by
    simp only [VR] at h ⊢
    obtain ⟨B, o, h1, h2⟩ := h
    exact ⟨B, o, h1, CR.monoV e cs B o h2⟩
  | .pby ty cs, c, h => by
    simp only [VR] at h ⊢
    obtain ⟨B, o, f, t, h1, h2, h3⟩ := h
    obtain ⟨f', t', h4⟩ := e.row B ty f t h3
    exact ⟨B, o, f', t', h1, CR.monoV e cs B o h2, h4⟩
  | .sl n cs gr, c, h => by
    simp only [VR] at h ⊢
    obtain ⟨a, k, h1, h2, h3, h4⟩ := h
    refine ⟨a, k, h1, ?_, h3, h4.monoV e⟩
    rcases h2 with h2 | ⟨B, o, ha, h2⟩
    · exact .inl h2
    · exact .inr ⟨B, o, ha, CR.monoV e cs B o h2⟩
  | .fn f caps, c, h => by
    simp only [VR] at h ⊢
    obtain ⟨cvs, h1, h2⟩ := h
    exact ⟨cvs, h1, LR.monoV e caps cvs h2⟩
  | .ifc t x, c, h => by
    simp only [VR] at h ⊢
    obtain ⟨y, h1, h2⟩ := h
    exact ⟨y, h1, VR.monoV e x y h2⟩
  | .agg cs, c, h => by
    simp only [VR] at h ⊢
    obtain ⟨cvs, h1, h2⟩ := h
    exact ⟨cvs, h1, LR.monoV e cs cvs h2⟩
  | .tup cs, c, h => by
    simp only [VR] at h ⊢
    obtain ⟨cvs, h1, h2⟩ := h
    exact ⟨cvs, h1, LR.monoV e cs cvs h2⟩
theorem LR.monoV (e : ExtV g tok g' tok') : ∀ (vs : List V) (cs : List Value), LR P g tok vs cs → LR P g' tok' vs cs
  | [], cs, h => by simpa only [LR] using h
  | v :: vs, cs, h => by
    simp only [LR] at h ⊢
    obtain ⟨c, cs', rfl, h1, h2⟩ := h
    exact ⟨c, cs', rfl, VR.monoV e v c h1, LR.monoV e vs cs' h2⟩
theorem CR.monoV (e : ExtV g tok g' tok') : ∀ (vs : List V) (B o : Nat), CR P g tok vs B o → CR P g' tok' vs B o
  | [], _, _, _ => by simp only [CR]
  | v :: vs, B, o, h => by
    simp only [CR] at h ⊢
    obtain ⟨⟨c, hc, h1⟩, h2⟩ := h
    exact ⟨⟨c, e.at_ B o c hc, VR.monoV e v c h1⟩, CR.monoV e vs B (o + 1) h2⟩
end
end

section
variable {P : Program} {tab : Tab} {n0 : Nat} {g0 g : G} {h0 h : H} {w : World}

def G.free (g : G) (r : Nat) : G := { g with own := upd g.own r .free }

theorem G.free_own {g : G} {B B' : Nat} (hB' : B' ≠ B) : (g.free B).own B' = g.own B' := by simp only [G.free]; rw [upd_other _ _ hB']

theorem ExtV.free {B : Nat} (hB : g.own B = .dfr) (tok : Toks) : ExtV g tok (g.free B) tok where
  at_ := fun B' o v hv => by
    have hne : B' ≠ B := fun e => by subst e; simp only [G.at, hB] at hv; cases hv
    have e : (g.free B).at B' o = g.at B' o := by simp only [G.at, G.free_own hne]; rfl
    rw [e]; exact hv
  blk := fun b hb => ⟨rfl, by rw [G.free_own (fun e => by rw [e, hB] at hb; cases hb)]; exact hb⟩
  lp := fun b hb => ⟨rfl, by rw [G.free_own (fun e => by rw [e, hB] at hb; cases hb)]; exact hb⟩
  row := fun B' ty f t hr => ⟨f, t, by rw [G.free_own (fun e => by rw [e, hB] at hr; cases hr)]; exact hr⟩
  tok := fun t m ty hm => ⟨m, hm, Nat.le_refl _, fun _ => rfl⟩

/-- A block of a loop's deferred calls is taken: nothing is known of it any more. -/
theorem R.take (r : R P tab g h w) {B : Nat} (hB : g.own B = .dfr) (w' : World) (hsz : w'.heap.size = w.heap.size) (hoth : ∀ j, j ≠ B → w'.heap[j]? = w.heap[j]?) (hio : (w'.os, w'.output) = (w.os, w.output) := by rfl) : R P tab (g.free B) h w' := by
  have self : (g.free B).own B = .free := by simp [G.free]
  have e := ExtV.free hB h.tok
  have back : ∀ {B' : Nat} {x : Own}, (g.free B).own B' = x → x ≠ .free → B' ≠ B ∧ g.own B' = x := fun {B' x} hx hn => by
    have hne : B' ≠ B := fun e' => by subst e'; rw [self] at hx; exact hn hx.symm
    exact ⟨hne, by rw [← G.free_own hne]; exact hx⟩
  constructor
  · intro b ty cs hb ho
    obtain ⟨h1, h2⟩ := back ho (by simp)
    obtain ⟨vs, h3, h4⟩ := r.blk b ty cs hb h2
    exact ⟨vs, by rw [hoth _ h1]; exact h3, LR.monoV e _ _ h4⟩
  · intro B' o ho
    obtain ⟨h1, h2⟩ := back ho (by simp)
    rw [hoth _ h1]; exact r.oOld B' o h2
  · intro B' b ho
    obtain ⟨h1, h2⟩ := back ho (by simp)
    exact r.oBlk B' b h2
  · intro B' ty f t ho
    obtain ⟨h1, h2⟩ := back ho (by simp)
    rw [hoth _ h1]; exact r.oRow B' ty f t h2
  · intro B' l ho
    obtain ⟨h1, h2⟩ := back ho (by simp)
    exact r.oLp B' l h2
  · intro B' ho
    obtain ⟨h1, h2⟩ := back ho (by simp)
    rw [hoth _ h1]; exact r.oDfr B' h2
  · intro B' hge
    by_cases e' : B' = B
    · subst e'; exact self
    · rw [G.free_own e']; exact r.fresh B' (by omega)
  · intro t m ty hm
    obtain ⟨h1, f, h2, h3, arr, fz, h4, h5, h6⟩ := r.tok t m ty hm
    have hne : (g.tk t).blk ≠ B := fun e' => by rw [e', hB] at h2; cases h2
    exact ⟨h1, f, by show (g.free B).own (g.tk t).blk = _; rw [G.free_own hne]; exact h2, h3, arr, fz, by show w'.heap[(g.tk t).blk]? = _; rw [hoth _ hne]; exact h4, h5, h6⟩
  · intro l p hp
    obtain ⟨lc, h1, h2, h3⟩ := r.lps l p hp
    have hne : g.lp l ≠ B := fun e' => by rw [e', hB] at h1; cases h1
    exact ⟨lc, by show (g.free B).own (g.lp l) = _; rw [G.free_own hne]; exact h1, by show w'.heap[g.lp l]? = _; rw [hoth _ hne]; exact h2, h3.state, h3.pend, h3.pendX,
      fun i hi => let ⟨c, hc, hv⟩ := h3.tm i hi; ⟨c, hc, VR.monoV e _ _ hv⟩, h3.params, h3.assign, h3.body, h3.fn⟩
  · exact hio.trans r.io

/-- A mark made since the start may go. -/
theorem Keeps.take {es et : Es} (k : Keeps n0 g0 h0 g h es et) {B : Nat} (hB : g.own B = .dfr) (h0B : g0.own B = .free) : Keeps n0 g0 h0 (g.free B) h es et where
  ext := by
    have e := ExtV.free hB h.tok
    have x := k.ext
    exact ⟨fun B' o v hv => e.at_ _ _ _ (x.at_ _ _ _ hv),
      fun b hb => by
        obtain ⟨h1, h2⟩ := x.blk b hb
        have := e.blk b (by rw [h1]; exact h2)
        rw [h1] at this; exact this,
      fun b hb => by
        obtain ⟨h1, h2⟩ := x.lp b hb
        have := e.lp b (by rw [h1]; exact h2)
        rw [h1] at this; exact this,
      fun B' ty f t hr => by obtain ⟨f', t', h1⟩ := x.row _ _ _ _ hr; exact e.row _ _ _ _ h1,
      fun t m ty hm => x.tok t m ty hm,
      fun D hD => by
        have hne : D ≠ B := fun e' => by rw [e', h0B] at hD; cases hD
        rw [G.free_own hne]; exact x.dfr D hD,
      fun D o hD => by
        have hne : D ≠ B := fun e' => by rw [e', h0B] at hD; cases hD
        rw [G.free_own hne]; exact x.old D o hD,
      x.io⟩
  len := k.len
  back := fun b hb ho => by
    have hne : g.phi b ≠ B := fun e' => by
      have : (g.free B).own B = .free := by simp [G.free]
      rw [show (g.free B).phi b = g.phi b from rfl, e', this] at ho; cases ho
    exact k.back b hb (by rw [← G.free_own hne]; exact ho)
  blk := k.blk
  lpl := k.lpl
  lps := k.lps
end

end Go.Sim

/- A frame unwinds. Conditions: none. -/
set_option linter.unusedSimpArgs false
set_option linter.unusedVariables false
namespace Go.Sim

section
variable {P : Program} {tab : Tab} {n0 : Nat} {g0 : G} {h0 : H}

theorem Ext.toV {g g' : G} {a b : Toks} (e : Ext g a g' b) : ExtV g a g' b := ⟨e.at_, e.blk, e.lp, e.row, e.tok⟩
theorem ExtV.trans {g g' g'' : G} {a b c : Toks} (h : ExtV g a g' b) (k : ExtV g' b g'' c) : ExtV g a g'' c where
  at_ := fun B o v x => k.at_ B o v (h.at_ B o v x)
  blk := fun b x => by
    obtain ⟨e, y⟩ := h.blk b x
    have := k.blk b (by rw [e]; exact y)
    rw [e] at this; exact this
  lp := fun b x => by
    obtain ⟨e, y⟩ := h.lp b x
    have := k.lp b (by rw [e]; exact y)
    rw [e] at this; exact this
  row := fun B ty f t x => by obtain ⟨f', t', y⟩ := h.row B ty f t x; exact k.row B ty f' t' y
  tok := fun t m ty x => by
    obtain ⟨m', y, hle, he⟩ := h.tok t m ty x
    obtain ⟨m'', z, hle', he'⟩ := k.tok t m' ty y
    refine ⟨m'', z, by omega, fun e => ?_⟩
    rw [he' (by omega), he (by omega)]
theorem TabOK.monoV {g g' : G} {a b : Toks} (e : ExtV g a g' b) (ht : TabOK P tab g) : TabOK P tab g' :=
  fun gl cs hc => CR.monoV (tok := []) (tok' := []) ⟨e.at_, e.blk, e.lp, e.row, fun t m ty h => by simp at h⟩ cs gl 0 (ht gl cs hc)
theorem TR.monoV {g g' : G} {tok tok' : Toks} {tm : Tm} {tmps : Array Value} (e : ExtV g tok g' tok') (h : TR P g tok tm tmps) : TR P g' tok' tm tmps :=
  fun i hi => let ⟨c, hc, hr⟩ := h i hi; ⟨c, hc, VR.monoV e _ _ hr⟩

def ModeR (P : Program) (g : G) (tok : Toks) : Mode → FrameMode → Prop
  | .retn, m => m = .returning
  | .pang v, m => ∃ c, m = .panicking [{ v := c, recovered := false }] ∧ VR P g tok v c

theorem DfR.monoV {g g' : G} {tok tok' : Toks} (e : ExtV g tok g' tok') {f : V} {vs : List V} {d : Deferred} (h : DfR P g tok f vs d) : DfR P g' tok' f vs d := by
  obtain ⟨cargs, h1, h2, h3⟩ := h
  refine ⟨cargs, LR.monoV e _ _ h1, h2, ?_⟩
  cases f with
  | fn id caps =>
    obtain ⟨cc, h4, h5⟩ := h3
    exact ⟨cc, LR.monoV e _ _ h4, h5⟩
  | yld l =>
    obtain ⟨h4, h5⟩ := h3
    obtain ⟨e1, e2⟩ := e.lp l h5
    exact ⟨by rw [e1]; exact h4, by rw [e1]; exact e2⟩
  | _ => exact h3

theorem DfL.take {g : G} {tok : Toks} {B : Nat} (hB : g.own B = .dfr) : ∀ {l : List D} {ds : List Deferred}, DfL P g0 g tok l ds → (∀ d ∈ ds, d.target ≠ .collected B) → DfL P g0 (g.free B) tok l ds
  | [], ds, h, _ => h
  | .coll :: l, ds, h, hne => by
    obtain ⟨r, ds', rfl, h2, h3, h4, h5⟩ := h
    have hr : r ≠ B := fun e => hne { target := .collected r, args := #[] } (by simp) (by rw [e])
    exact ⟨r, ds', rfl, by rw [G.free_own hr]; exact h2, h3, h4, DfL.take hB h5 fun d hd => hne d (by simp [hd])⟩
  | .fn f vs :: l, ds, h, hne => by
    obtain ⟨d, ds', rfl, h2, h3, h4⟩ := h
    exact ⟨d, ds', rfl, h2.monoV (ExtV.free hB tok), h3, DfL.take hB h4 fun d hd => hne d (by simp [hd])⟩

def modeAfter (rc : Rc) (m : FrameMode) : FrameMode := match rc with
  | .done => .returning
  | _ => m

/-- What is asked of deferred calls. -/
def CallDOK (P : Program) (tab : Tab) (call : Caller) : Prop :=
  ∀ f vs rc h u v, call f vs rc h = some u → u.r = .ret v → ∀ g w d, R P tab g h w → TabOK P tab g → DfR P g h.tok f vs d →
    ∀ (c : Frame) (cs : List Frame), (rc = .dfr ∧ c.mode = .returning ∨ ∃ cv x, rc = .on x ∧ c.mode = .panicking [{ v := cv, recovered := false }] ∧ VR P g h.tok x cv) →
      ∃ id args, (invoke d.target d.args).run P w = .ok (.enter id args) w ∧ (∃ fv cap, d.target = .fn fv cap) ∧ ∃ g' w', R P tab g' u.h w' ∧ Keeps h.blk.length g h g' u.h u.es u.et ∧
        Steps P (lone (Frame.enter P id args .deferred) (c :: cs) w) (lone { c with mode := modeAfter u.rc c.mode } cs w')

theorem step_taken {fr : Frame} {cs : List Frame} {w : World} {r : Nat} {ds : List Deferred} (hm : fr.mode ≠ .run) (hd : fr.defers = { target := .collected r, args := #[] } :: ds) (hr : w.heap[r]? = some (.deferred (some []))) :
    step P (lone fr cs w) = .next (lone { fr with defers := ds } cs { w with heap := w.heap.setIfInBounds r (.deferred none) }) := by
  refine step_lone_go ?_
  have hrun : (Instr.takeDeferred r).run P w = .ok [] { w with heap := w.heap.setIfInBounds r (.deferred none) } := by
    have h1 : (getObj r).run P w = .ok (.deferred (some [])) w := by simp only [getObj, Sem.run, hr]
    have h2 : (setObj r (.deferred none)).run P w = .ok () { w with heap := w.heap.setIfInBounds r (.deferred none) } := by simp only [setObj, Sem.run, hr]
    simp only [Instr.takeDeferred, Sem.run_bind, h1, h2, Result.andThen_ok]
    rfl
  cases hmode : fr.mode with
  | run => exact absurd hmode hm
  | returning => simp [Go.stepG, unwind, hmode, hd, hrun]
  | panicking chain => simp [Go.stepG, unwind, hmode, hd, hrun]

end

end Go.Sim

/- A frame unwinds: the deferred calls one after the other. Conditions: none. -/
set_option linter.unusedSimpArgs false
set_option linter.unusedVariables false
namespace Go.Sim

section
variable {P : Program} {tab : Tab} {n0 : Nat} {g0 : G} {h0 : H}

theorem runDf_ok {call : Caller} (hcall : CallDOK P tab call) : ∀ (ds : List D) (m : Mode) (h : H) (es et : Es) (m' : Mode) (h' : H) (es' et' : Es), runDf call n0 ds m h es et = some (m', h', es', et') →
    ∀ (g : G) (w : World) (fr : Frame) (cs : List Frame), R P tab g h w → TabOK P tab g → DfL P g0 g h.tok ds fr.defers → Keeps n0 g0 h0 g h es et → n0 ≤ h.blk.length → ModeR P g h.tok m fr.mode →
      ∃ g' w' um, R P tab g' h' w' ∧ Keeps n0 g0 h0 g' h' es' et' ∧ ExtV g h.tok g' h'.tok ∧ ModeR P g' h'.tok m' um ∧ Steps P (lone fr cs w) (lone { fr with defers := [], mode := um } cs w')
  | [], m, h, es, et, m', h', es', et', hs, g, w, fr, cs, r, tb, df, k, hn, hm => by
    simp only [runDf, Option.some.injEq, Prod.mk.injEq] at hs
    obtain ⟨rfl, rfl, rfl, rfl⟩ := hs
    have hd : fr.defers = [] := df
    refine ⟨g, w, fr.mode, r, k, (Ext.refl _ _).toV, hm, ?_⟩
    have : ({ fr with defers := [], mode := fr.mode } : Frame) = fr := by cases fr; simp at hd; subst hd; rfl
    rw [this]; exact .refl _ _
  | .coll :: ds, m, h, es, et, m', h', es', et', hs, g, w, fr, cs, r, tb, df, k, hn, hm => by
    simp only [runDf] at hs
    obtain ⟨B, dfs, hd, h2, h3, h4, h5⟩ := df
    have hB := r.oDfr B h2
    have hmode : fr.mode ≠ .run := by
      cases m with
      | retn => simp only [ModeR] at hm; rw [hm]; simp
      | pang v => obtain ⟨c, hm, _⟩ := hm; rw [hm]; simp
    have hstep := step_taken (P := P) (cs := cs) (w := w) hmode hd hB
    have r1 := r.take h2 { w with heap := w.heap.setIfInBounds B (.deferred none) } (by simp) (fun j hj => by simp [Array.getElem?_setIfInBounds_ne (Ne.symm hj)])
    have e1 := ExtV.free h2 h.tok
    obtain ⟨g', w', um, r', k', e', hm', hst⟩ := runDf_ok hcall ds m h es et m' h' es' et' hs (g.free B) _ { fr with defers := dfs } cs r1 (tb.monoV e1) (DfL.take h2 h5 h4) (k.take h2 h3) hn (by
      cases m with
      | retn => exact hm
      | pang v => obtain ⟨c, hm, hv⟩ := hm; exact ⟨c, hm, VR.monoV e1 _ _ hv⟩)
    exact ⟨g', w', um, r', k', e1.trans e', hm', .head hstep hst⟩
  | .fn f vs :: ds, m, h, es, et, m', h', es', et', hs, g, w, fr, cs, r, tb, df, k, hn, hm => by
    simp only [runDf] at hs
    split at hs
    · rename_i v h1 es1 et1 rc1 hu
      obtain ⟨d, dfs, hd, hdr, hfn, hrest⟩ := df
      have hmode : fr.mode ≠ .run := by
        cases m with
        | retn => simp only [ModeR] at hm; rw [hm]; simp
        | pang v => obtain ⟨c, hm, _⟩ := hm; rw [hm]; simp
      obtain ⟨id, args, hinv, ⟨fv, cap, htar⟩, g1, w1, r1, k1, hst⟩ := hcall f vs _ h _ v hu rfl g w d r tb hdr { fr with defers := dfs } cs (by
        cases m with
        | retn => exact .inl ⟨rfl, hm⟩
        | pang x => obtain ⟨c, hm, hv⟩ := hm; exact .inr ⟨c, x, rfl, hm, hv⟩)
      have hstep := step_defer (P := P) (cs := cs) hmode hd htar hinv
      have k2 := k.trans (k1.down hn)
      obtain ⟨g', w', um, r', k', e', hm', hst'⟩ := runDf_ok hcall ds _ h1 _ _ m' h' es' et' hs g1 w1 { fr with defers := dfs, mode := modeAfter rc1 fr.mode } cs r1 (tb.mono k1.ext) (hrest.mono k1.ext) k2 (Nat.le_trans hn k1.len) (by
        cases m with
        | retn =>
          simp only [ModeR] at hm
          cases rc1 <;> simp [ModeR, hm, modeAfter]
        | pang x =>
          obtain ⟨c, hm, hv⟩ := hm
          cases rc1 <;> first
            | exact ⟨c, hm, VR.mono k1.ext _ _ hv⟩
            | rfl)
      exact ⟨g', w', um, r', k', k1.ext.toV.trans e', hm', .head hstep (hst.trans hst')⟩
    · cases hs

end

end Go.Sim

/- A function's frame at its start. Conditions: none. -/
set_option linter.unusedSimpArgs false
set_option linter.unusedVariables false
namespace Go.Sim

section
variable {P : Program} {tab : Tab} {g : G} {tok : Toks}

theorem Tm.has_mk (v : V) : ∀ (d sz i : Nat), (Tm.mk v d sz).has i = true → i < sz
  | 0, sz, i, h => by simp [Tm.mk, Tm.has] at h
  | d + 1, 0, i, h => by simp [Tm.mk, Tm.has] at h
  | d + 1, sz + 1, 0, h => by omega
  | d + 1, sz + 1, i + 1, h => by
    simp only [Tm.mk, Tm.has] at h
    have e1 : Nat.mod i 2 = i % 2 := rfl
    have e2 : Nat.div i 2 = i / 2 := rfl
    have e3 : Nat.div (sz + 1) 2 = (sz + 1) / 2 := rfl
    have e4 : Nat.div sz 2 = sz / 2 := rfl
    rcases mod_two i with hm | hm
    · simp only [hm] at h
      have := Tm.has_mk v d _ _ h
      omega
    · simp only [hm] at h
      have := Tm.has_mk v d _ _ h
      omega

theorem Tm.get_mk (v : V) : ∀ (d sz i : Nat), (Tm.mk v d sz).has i = true → (Tm.mk v d sz).get i = v
  | 0, sz, i, h => by simp [Tm.mk, Tm.has] at h
  | d + 1, 0, i, h => by simp [Tm.mk, Tm.has] at h
  | d + 1, sz + 1, 0, h => rfl
  | d + 1, sz + 1, i + 1, h => by
    simp only [Tm.mk, Tm.has, Tm.get] at h ⊢
    rcases mod_two i with hm | hm
    · simp only [hm] at h ⊢; exact Tm.get_mk v d _ _ h
    · simp only [hm] at h ⊢; exact Tm.get_mk v d _ _ h

theorem Tm.has_puts : ∀ (vs : List V) (t : Tm) (i j : Nat), (t.puts i vs).has j = t.has j
  | [], t, i, j => rfl
  | v :: vs, t, i, j => by simp only [Tm.puts]; rw [Tm.has_puts vs, Tm.has_put]

theorem Tm.get_puts : ∀ (vs : List V) (t : Tm) (i j : Nat), t.has j = true → (t.puts i vs).get j = if i ≤ j then (match vs[j - i]? with | some v => v | none => t.get j) else t.get j
  | [], t, i, j, _ => by simp [Tm.puts]
  | v :: vs, t, i, j, h => by
    simp only [Tm.puts]
    rw [Tm.get_puts vs (t.put i v) (i + 1) j (by rw [Tm.has_put]; exact h)]
    rcases Nat.lt_trichotomy j i with hj | hj | hj
    · rw [if_neg (by omega), if_neg (by omega), Tm.get_put_other _ _ _ _ (by omega)]
    · subst hj
      rw [if_neg (by omega), if_pos (Nat.le_refl _), Tm.get_put_same _ _ _ h]; simp
    · rw [if_pos (by omega), if_pos (by omega), Tm.get_put_other _ _ _ _ (by omega)]
      have : j - i = (j - (i + 1)) + 1 := by omega
      rw [this, List.getElem?_cons_succ]

theorem TR.enter {args : List V} {cargs : List Value} (hl : LR P g tok args cargs) (d n : Nat) : TR P g tok ((Tm.mk undefV d n).puts 0 args) (cargs.toArray ++ Array.replicate (n - cargs.toArray.size) undef) := by
  intro j hj
  rw [Tm.has_puts] at hj
  have hlt := Tm.has_mk _ _ _ _ hj
  rw [Tm.get_puts _ _ _ _ hj, if_pos (Nat.zero_le _), Nat.sub_zero]
  have hlen := hl.length
  rcases Nat.lt_or_ge j args.length with hja | hja
  · obtain ⟨c, hc, hv⟩ := hl.get (List.getElem?_eq_getElem hja)
    refine ⟨c, ?_, ?_⟩
    · rw [Array.getElem?_append_left (by simp; omega)]; simpa using hc
    · rw [List.getElem?_eq_getElem hja]; exact hv
  · refine ⟨undef, ?_, ?_⟩
    · rw [Array.getElem?_append_right (by simp; omega)]
      simp only [List.size_toArray]
      rw [Array.getElem?_replicate, if_pos (by omega)]
    · rw [List.getElem?_eq_none hja]
      simp only
      rw [Tm.get_mk _ _ _ _ hj]; exact VR.undef

end

end Go.Sim

/- A function's results. Conditions: none. -/
set_option linter.unusedSimpArgs false
set_option linter.unusedVariables false
namespace Go.Sim

section
variable {P : Program} {tab : Tab} {g : G} {h : H} {w : World}

theorem rv_ok (r : R P tab g h w) {tm : Tm} {tmps : Array Value} (hr : TR P g h.tok tm tmps) {x : ResultVar} {y : RV} (hc : resRV P x = some y) {v : V} (hv : rvOf tm h y = some v) :
    ∃ c, (match x with | .tmp t => (pure (tmps.getD t undef) : Sem Value) | .cell a t => do loadVar t (← asAddr (tmps.getD a undef))).run P w = .ok c w ∧ VR P g h.tok v c := by
  have get : ∀ t, VR P g h.tok (tm.get t) (tmps.getD t undef) := fun t => by
    cases hh : tm.has t with
    | false => rw [Tm.get_not_has _ _ hh]; simp only [VR]
    | true =>
      obtain ⟨c, hc, hv⟩ := hr t hh
      have : tmps.getD t undef = c := by simp [Array.getD_eq_getD_getElem?, hc]
      rw [this]; exact hv
  cases x with
  | tmp t =>
    simp only [resRV, Option.some.injEq] at hc; subst hc
    simp only [rvOf, Option.some.injEq] at hv; subst hv
    exact ⟨_, rfl, get t⟩
  | cell a t =>
    simp only [resRV, Option.bind_eq_some_iff, Option.map_eq_some_iff] at hc
    obtain ⟨agg, hg, n, hn, rfl⟩ := hc
    simp only [rvOf] at hv
    obtain ⟨B, o, c, h1, h2, h3⟩ := load_val r (get a) hg hn hv
    exact ⟨c, by simp [h1, asAddr, h2], h3⟩


theorem rvs_ok (r : R P tab g h w) {tm : Tm} {tmps : Array Value} (hr : TR P g h.tok tm tmps) : ∀ (xs : List ResultVar) (ys : List RV) (vs : List V), allSome (xs.map (resRV P)) = some ys → ys.mapM (rvOf tm h) = some vs →
    ∃ cs : List Value, (xs.mapM (m := Sem) fun (x : ResultVar) => match x with | ResultVar.tmp t => (pure (tmps.getD t undef) : Sem Value) | ResultVar.cell a t => do loadVar t (← asAddr (tmps.getD a undef))).run P w = Result.ok cs w ∧ LR P g h.tok vs cs
  | [], ys, vs, hy, hv => by
    simp only [List.map_nil, allSome, Option.some.injEq] at hy; subst hy
    simp only [List.mapM_nil, Option.pure_def, Option.some.injEq] at hv; subst hv
    exact ⟨[], rfl, by simp only [LR]⟩
  | x :: xs, ys, vs, hy, hv => by
    simp only [List.map_cons] at hy
    cases hx : resRV P x with
    | none => rw [hx] at hy; simp [allSome] at hy
    | some y =>
      rw [hx] at hy
      simp only [allSome, Option.map_eq_some_iff] at hy
      obtain ⟨ys', hy', rfl⟩ := hy
      simp only [List.mapM_cons, Option.bind_eq_bind, Option.bind_eq_some_iff, Option.pure_def, Option.some.injEq] at hv
      obtain ⟨v, hv1, vs', hv2, rfl⟩ := hv
      obtain ⟨c, h1, h2⟩ := rv_ok r hr hx hv1
      obtain ⟨cs, h3, h4⟩ := rvs_ok r hr xs ys' vs' hy' hv2
      refine ⟨c :: cs, ?_, by simp only [LR]; exact ⟨c, cs, rfl, h2, h4⟩⟩
      simp only [List.mapM_cons, Sem.run_bind]
      rw [h1]
      simp only [Result.andThen_ok]
      rw [h3]
      rfl

theorem results_ok (r : R P tab g h w) {fn : Func} {tm : Tm} {tmps : Array Value} (hr : TR P g h.tok tm tmps) {ys : List RV} (hy : allSome (fn.results.toList.map (resRV P)) = some ys) {v : V} (hv : resOf tm h ys = some v) :
    ∃ c, (results fn tmps).run P w = .ok c w ∧ VR P g h.tok v c := by
  simp only [resOf, Option.map_eq_some_iff] at hv
  obtain ⟨vs, hv, rfl⟩ := hv
  obtain ⟨cs, h1, h2⟩ := rvs_ok r hr _ _ _ hy hv
  have hm : (fn.results.mapM (m := Sem) fun (x : ResultVar) => match x with | ResultVar.tmp t => (pure (tmps.getD t undef) : Sem Value) | ResultVar.cell a t => do loadVar t (← asAddr (tmps.getD a undef))).run P w = Result.ok cs.toArray w := by
    rw [Array.mapM_eq_mapM_toList, Sem.run_map, h1]
    rfl
  have hr : (results fn tmps).run P w = .ok (if h : cs.toArray.size = 1 then cs.toArray[0] else .tuple cs.toArray) w := by
    unfold results
    simp only [Sem.run_bind]
    exact congrArg (fun q : Result (Array Value) => q.andThen fun a w' => Sem.run P (pure (if h : a.size = 1 then a[0] else Value.tuple a)) w') hm
  refine ⟨_, hr, ?_⟩
  cases vs with
  | nil =>
    simp only [LR] at h2; subst h2
    simp only [VR]; exact ⟨[], by simp, by simp only [LR]⟩
  | cons v vs =>
    cases vs with
    | nil =>
      obtain ⟨c, rfl, hc⟩ := h2.one
      simpa using hc
    | cons u vs =>
      have hl := h2.length
      simp only [List.length_cons] at hl
      have : ¬ cs.toArray.size = 1 := by simp; omega
      rw [dif_neg this]
      simp only [VR]; exact ⟨cs, rfl, h2⟩

end

end Go.Sim

/- A function's frame from its start to its end. Conditions: none. -/
set_option linter.unusedSimpArgs false
set_option linter.unusedVariables false
namespace Go.Sim

section
variable {P : Program} {tab : Tab}

def fr0 (f : FuncId) (kind : CallKind) : Frame := { (default : Frame) with fn := f, kind, roundOf := none }

/-- Whose block is whose is known both ways. -/
def G.good (g : G) : Prop := (∀ B b, g.own B = .blk b → g.phi b = B) ∧ ∀ B l, g.own B = .lp l → g.lp l = B

theorem R.good {g : G} {h : H} {w : World} (r : R P tab g h w) : g.good := ⟨fun B b hb => (r.oBlk B b hb).2, fun B l hl => (r.oLp B l hl).2⟩

theorem frame_run {E : Env} {call : Caller} {fuel : Nat} (hcall : CallOK P tab call) (hdc : CallDOK P tab call) (hp : ∀ n0 g0 h0 cs0 b, G.good g0 → (P.funcs[b.fn]?).isSome = true → PartsOK P tab n0 g0 h0 cs0 b E call fuel)
    {f : FuncId} {fn : Func} {c : Code} (hf : P.funcs[f]? = some fn) (hb : fn.body = some c) {g : G} {h : H} {w : World} (r : R P tab g h w) (tb : TabOK P tab g) {args : List V} {cargs : List Value} (hl : LR P g h.tok args cargs)
    {kind : CallKind} {cs : List Frame} {rc : Rc} (hrc : RcR P g h.tok rc (fr0 f kind) cs cs) {d : Nat} {x : X} {s : St}
    (hrun : run E call fuel h.blk.length (code P tab c) { tm := (Tm.mk undefV d fn.ntmps).puts 0 args, h, rc } = some (x, s)) {m : Mode} (hm : modeX x = some m) {m' : Mode} {h' : H} {es et : Es} (hdf : runDf call h.blk.length s.df m s.h s.es s.et = some (m', h', es, et)) :
    ∃ g' w' fr cs', R P tab g' h' w' ∧ TabOK P tab g' ∧ Keeps h.blk.length g h g' h' es et ∧ TR P g' h'.tok s.tm fr.tmps ∧ ModeR P g' h'.tok m' fr.mode ∧ fr.defers = [] ∧ fr.kind = kind ∧ fr.fn = f ∧ fr.roundOf = none ∧
      Steps P (lone (Frame.enter P f cargs.toArray kind) cs w) (lone fr cs' w') ∧ (∃ g1 tok1, RcR P g1 tok1 s.rc (fr0 f kind) cs cs') := by
  have henter : Frame.enter P f cargs.toArray kind = (fr0 f kind).atR { tmps := cargs.toArray ++ Array.replicate (fn.ntmps - cargs.toArray.size) undef, defers := [] } [.code c] := by
    simp [Frame.enter, Frame.atR, hf, hb, fr0]
  have S : SR P tab h.blk.length g h cs (fr0 f kind) g { tm := (Tm.mk undefV d fn.ntmps).puts 0 args, h, rc } { tmps := cargs.toArray ++ Array.replicate (fn.ntmps - cargs.toArray.size) undef, defers := [] } cs w :=
    ⟨r, tb, TR.enter hl _ _, rfl, Keeps.refl _ _ _, Nat.le_refl _, hrc, rfl⟩
  obtain ⟨g1, a1, cs1, w1, S1, e1, r1⟩ := run_ok hcall (hp _ _ _ _ _ r.good (by simp [fr0, hf])) c [] g _ s _ cs w x S hrun
  rw [← henter] at r1
  -- the frame leaves its code
  have leave : ∃ todo um, ModeR P g1 s.h.tok m um ∧ Steps P (lone (Frame.enter P f cargs.toArray kind) cs w) (lone { (fr0 f kind).atR a1 todo with mode := um } cs1 w1) := by
    cases x with
    | norm =>
      simp only [modeX, Option.some.injEq] at hm; subst hm
      exact ⟨[], .returning, rfl, Steps.trans r1 (.one (stepR_end rfl))⟩
    | ret =>
      simp only [modeX, Option.some.injEq] at hm; subst hm
      obtain ⟨k1, h2⟩ := r1
      exact ⟨_, .returning, rfl, h2.trans (.one (stepR_ret rfl))⟩
    | pan v =>
      simp only [modeX, Option.some.injEq] at hm; subst hm
      obtain ⟨cv, todo, h1, h3, h2⟩ := r1
      exact ⟨todo, _, ⟨cv, rfl, h1⟩, h2⟩
    | exit id => simp [modeX] at hm
  obtain ⟨todo, um, hmr, hst⟩ := leave
  obtain ⟨g2, w2, um2, r2, k2, e2, hm2, hst2⟩ := runDf_ok hdc s.df m s.h s.es s.et m' h' es et hdf g1 w1 { (fr0 f kind).atR a1 todo with mode := um } cs1 S1.r S1.tb S1.df S1.keep S1.hn hmr
  exact ⟨g2, w2, _, cs1, r2, S1.tb.monoV e2, k2, S1.tm.monoV e2, hm2, rfl, rfl, rfl, rfl, hst.trans hst2, g1, s.h.tok, S1.rc⟩
end

end Go.Sim

