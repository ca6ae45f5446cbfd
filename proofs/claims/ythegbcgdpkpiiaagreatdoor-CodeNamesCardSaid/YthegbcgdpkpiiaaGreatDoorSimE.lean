/- Calls, rounds, ranges over functions, the orders of a region. Conditions: none. -/
import Derived.Test.YthegbcgdpkpiiaaGreatDoorSimD
import Derived.Orders
set_option linter.all false
/- Calls of functions. Conditions: none. -/
set_option linter.unusedSimpArgs false
set_option linter.unusedVariables false
namespace Go.Sim

section
variable {P : Program} {tab : Tab}

/-- The machine's call of a function with a body. -/
theorem callFunc_code {id : FuncId} {fn : Func} (hf : P.funcs[id]? = some fn) (hname : (fn.name == "runtime.NumGoroutine") = false) {c : Code} (hb : fn.body = some c) (args : Array Value) (w : World) :
    (callFunc id args).run P w = .ok (.enter id args) w := by
  have h1 : (program).run P w = .ok P w := rfl
  have hb' : fn.body.isNone = false := by rw [hb]; rfl
  simp only [callFunc, Sem.run_bind, h1, Result.andThen_ok, hf, hname, hb', Bool.false_eq_true, if_false]
  rfl

/-- What is asked of the environment. -/
structure EnvOK (P : Program) (tab : Tab) (E : Env) : Prop where
  mixed : P.follows .mixedOrders = true
  code : ∀ f ntm body res keep, E.fn f = some (.code ntm body res keep) → ∃ fn c, P.funcs[f]? = some fn ∧ (fn.name == "runtime.NumGoroutine") = false ∧ fn.body = some c ∧ ntm = fn.ntmps ∧ body = code P tab c ∧ allSome (fn.results.toList.map (resRV P)) = some res
  ext : ∀ f x args v, E.fn f = some (.ext x) → extV x args = some v → ∀ g tok w (cargs : List Value), LR P g tok args cargs → ∃ c, (callFunc f cargs.toArray).run P w = .ok (.value c) w ∧ VR P g tok v c
  orc : ∀ f args v, E.orc f args = some v → ∀ g h w (cargs : List Value), R P tab g h w → TabOK P tab g → LR P g h.tok args cargs → ∀ (fr : Frame) (cs : List Frame) (m : Machine), fr.mode = .run → Goes P m fr cs ((callFunc f cargs.toArray).run P w) →
    ∃ g' w' c, R P tab g' h w' ∧ Keeps h.blk.length g h g' h [] [] ∧ VR P g' h.tok v c ∧ Steps P m (lone (fr.finish c) cs w')

variable {E : Env} {call : Caller} {fuel : Nat}

theorem callFn1_ok (hE : EnvOK P tab E) (hcall : CallOK P tab call) (hdc : CallDOK P tab call) (hp : ∀ n0 g0 h0 cs0 b, G.good g0 → (P.funcs[b.fn]?).isSome = true → PartsOK P tab n0 g0 h0 cs0 b E call fuel)
    {f : Nat} {args : List V} {h : H} {out : Out} (hs : callFn1 E call fuel f args .off h = some out) {g : G} {w : World} {cargs : List Value} (r : R P tab g h w) (tb : TabOK P tab g) (hl : LR P g h.tok args cargs)
    {fr : Frame} {cs : List Frame} {m : Machine} (hm : fr.mode = .run) (hgo : Goes P m fr cs ((callFunc f cargs.toArray).run P w)) :
    ∃ g' w' c, R P tab g' out.h w' ∧ Keeps h.blk.length g h g' out.h out.es out.et ∧
      match out.r with
      | .ret v => VR P g' out.h.tok v c ∧ Steps P m (lone (fr.finish c) cs w')
      | .pan v => VR P g' out.h.tok v c ∧ Steps P m (lone (fr.raise [{ v := c, recovered := false }]) cs w') := by
  unfold callFn1 at hs
  split at hs
  · rename_i v hv
    simp only [Option.some.injEq] at hs
    subst hs
    obtain ⟨g', w', c, h1, h2, h3, h4⟩ := hE.orc _ _ _ hv g h w cargs r tb hl fr cs m hm hgo
    exact ⟨g', w', c, h1, h2, h3, h4⟩
  · split at hs
    · cases hs
    · rename_i x hx
      simp only [Option.map_eq_some_iff] at hs
      obtain ⟨v, hv, rfl⟩ := hs
      obtain ⟨c, h1, h2⟩ := hE.ext _ _ _ _ hx hv g h.tok w cargs hl
      rw [h1] at hgo
      exact ⟨g, w, c, r, Keeps.refl _ _ _, h2, .one hgo⟩
    · rename_i ntm body res keep hx
      obtain ⟨fn, c, hf, hname, hb, rfl, rfl, hres⟩ := hE.code _ _ _ _ _ hx
      rw [callFunc_code hf hname hb] at hgo
      dsimp only at hs
      split at hs
      · cases hs
      · rename_i x s hrun
        split at hs
        · cases hs
        · rename_i md hmd
          have key := fun m' h' es et (hdf : runDf call h.blk.length s.df md s.h s.es s.et = some (m', h', es, et)) =>
            frame_run hcall hdc hp hf hb r tb hl (kind := .normal) (cs := fr :: cs) (rc := .off) ⟨rfl, rfl⟩ hrun hmd hdf
          have roff : ∀ g1 tok1 cs', RcR P g1 tok1 s.rc (fr0 f .normal) (fr :: cs) cs' → cs' = fr :: cs := by
            intro g1 tok1 cs' hr
            cases hrc : s.rc <;> rw [hrc] at hr
            · exact hr.1
            · exact hr.1
            · exact hr.1
            · exact absurd hr.1 (by simp [fr0])
          split at hs
          · cases hs
          · rename_i h' es et hdf
            split at hs
            · cases hs
            · rename_i v hv
              simp only [Option.some.injEq] at hs
              obtain ⟨g1, w1, fr1, cs1, r1, tb1, k1, t1, hm1, hd1, hk1, hf1, hro1, hst, g2, tok2, hrc⟩ := key _ _ _ _ hdf
              obtain rfl := roff _ _ _ hrc
              obtain ⟨c1, hres1, hv1⟩ := results_ok r1 t1 hres hv
              obtain ⟨g3, r3, hv3, k3⟩ := fin_ok r r1 k1 hv1 _ _ (rfl : fin h.blk.length h.tok.length keep v h' es et = ((fin h.blk.length h.tok.length keep v h' es et).1, (fin h.blk.length h.tok.length keep v h' es et).2))
              subst hs
              refine ⟨g3, w1, c1, r3, k3, hv3, Steps.head hgo (hst.trans (.one (step_leave_returned ⟨hm1, hd1, hk1, fn, by rw [hf1]; exact hf, hres1⟩)))⟩
          · rename_i v h' es et hdf
            simp only [Option.some.injEq] at hs
            obtain ⟨g1, w1, fr1, cs1, r1, tb1, k1, t1, ⟨c1, hm1, hv1⟩, hd1, hk1, hf1, hro1, hst, g2, tok2, hrc⟩ := key _ _ _ _ hdf
            obtain rfl := roff _ _ _ hrc
            obtain ⟨g3, r3, hv3, k3⟩ := fin_ok r r1 k1 hv1 _ _ (rfl : fin h.blk.length h.tok.length keep v h' es et = ((fin h.blk.length h.tok.length keep v h' es et).1, (fin h.blk.length h.tok.length keep v h' es et).2))
            subst hs
            refine ⟨g3, w1, c1, r3, k3, hv3, Steps.head hgo (hst.trans (.one (step_leave_panicked ⟨hm1, hd1, fn, by rw [hf1]; exact hf⟩)))⟩

/-- A deferred call. -/
theorem callFn1_dok (hE : EnvOK P tab E) (hcall : CallOK P tab call) (hdc : CallDOK P tab call) (hp : ∀ n0 g0 h0 cs0 b, G.good g0 → (P.funcs[b.fn]?).isSome = true → PartsOK P tab n0 g0 h0 cs0 b E call fuel)
    {f : Nat} {args : List V} {rc : Rc} {h : H} {u : Out} {v : V} (hs : callFn1 E call fuel f args rc h = some u) (hu : u.r = .ret v) {g : G} {w : World} {cargs : List Value} (r : R P tab g h w) (tb : TabOK P tab g) (hl : LR P g h.tok args cargs)
    {c : Frame} {cs : List Frame} (hrc : rc = .dfr ∧ c.mode = .returning ∨ ∃ cv x, rc = .on x ∧ c.mode = .panicking [{ v := cv, recovered := false }] ∧ VR P g h.tok x cv) :
    (callFunc f cargs.toArray).run P w = .ok (.enter f cargs.toArray) w ∧ ∃ g' w', R P tab g' u.h w' ∧ Keeps h.blk.length g h g' u.h u.es u.et ∧
      Steps P (lone (Frame.enter P f cargs.toArray .deferred) (c :: cs) w) (lone { c with mode := modeAfter u.rc c.mode } cs w') := by
  have hne : rc ≠ .off := by
    rcases hrc with ⟨h, _⟩ | ⟨_, _, h, _⟩ <;> rw [h] <;> simp
  unfold callFn1 at hs
  split at hs
  · split at hs
    · exact absurd rfl hne
    · cases hs
  · split at hs
    · cases hs
    · split at hs
      · exact absurd rfl hne
      · cases hs
    · rename_i ntm body res keep hx
      obtain ⟨fn, cd, hf, hname, hb, rfl, rfl, hres⟩ := hE.code _ _ _ _ _ hx
      refine ⟨callFunc_code hf hname hb _ _, ?_⟩
      dsimp only at hs
      split at hs
      · cases hs
      · rename_i x s hrun
        split at hs
        · cases hs
        · rename_i md hmd
          have hrcR : RcR P g h.tok rc (fr0 f .deferred) (c :: cs) (c :: cs) := by
            rcases hrc with ⟨rfl, h1⟩ | ⟨cv, x, rfl, h1, h2⟩
            · exact ⟨rfl, rfl, rfl, c, cs, rfl, h1⟩
            · exact ⟨rfl, rfl, rfl, c, cs, cv, rfl, h1, h2⟩
          have key := fun m' h' es et (hdf : runDf call h.blk.length s.df md s.h s.es s.et = some (m', h', es, et)) =>
            frame_run hcall hdc hp hf hb r tb hl (kind := .deferred) (cs := c :: cs) (rc := rc) hrcR hrun hmd hdf
          split at hs
          · cases hs
          · rename_i h' es et hdf
            split at hs
            · cases hs
            · rename_i v' hv
              simp only [Option.some.injEq] at hs
              obtain ⟨g1, w1, fr1, cs1, r1, tb1, k1, t1, hm1, hd1, hk1, hf1, hro1, hst, g2, tok2, hrc2⟩ := key _ _ _ _ hdf
              obtain ⟨c1, hres1, hv1⟩ := results_ok r1 t1 hres hv
              obtain ⟨g3, r3, hv3, k3⟩ := fin_ok r r1 k1 hv1 _ _ (rfl : fin h.blk.length h.tok.length keep v' h' es et = ((fin h.blk.length h.tok.length keep v' h' es et).1, (fin h.blk.length h.tok.length keep v' h' es et).2))
              subst hs
              refine ⟨g3, w1, r3, k3, hst.trans ?_⟩
              have going : fr1.going P w1 (.returned c1) := ⟨hm1, hd1, fn, by rw [hf1]; exact hf, hres1⟩
              have fin1 : ∀ (c' : Frame) (cs' : List Frame), cs1 = c' :: cs' → Steps P (lone fr1 cs1 w1) (lone { c' with mode := settle c'.mode } cs' w1) := fun c' cs' e => by
                subst e; exact .one (step_going_returned hk1 going)
              show Steps P (lone fr1 cs1 w1) (lone { c with mode := modeAfter s.rc c.mode } cs w1)
              cases hrcs : s.rc with
              | off => rw [hrcs] at hrc2; exact absurd hrc2.2 (by simp [fr0])
              | dfr =>
                rw [hrcs] at hrc2
                obtain ⟨h1, _, _, c', rest, h2, h3⟩ := hrc2
                have := fin1 c cs h1
                cases h2
                simpa [modeAfter, h3, settle] using this
              | on y =>
                rw [hrcs] at hrc2
                obtain ⟨h1, _, _, c', rest, cv, h2, h3, _⟩ := hrc2
                have := fin1 c cs h1
                cases h2
                simpa [modeAfter, h3, settle] using this
              | done =>
                rw [hrcs] at hrc2
                obtain ⟨_, _, c', rest, cv, h2, h3, h4⟩ := hrc2
                cases h2
                have := fin1 _ _ h4
                simpa [modeAfter, settle] using this
          · rename_i v' h' es et hdf
            simp only [Option.some.injEq] at hs
            subst hs
            cases hu

end

end Go.Sim

/- Equality of the evaluator's values; functions asked twice. Conditions: none. -/
set_option linter.unusedSimpArgs false
set_option linter.unusedVariables false
namespace Go.Sim

mutual
theorem V.beq_eq : ∀ (a b : V), V.beq a b = true → a = b
  | .bool x, b, h => by cases b <;> simp [V.beq] at h; rw [h]
  | .int k x, b, h => by cases b <;> simp [V.beq] at h; rw [h.1, h.2]
  | .str x, b, h => by cases b <;> simp [V.beq] at h; rw [h]
  | .nilp, b, h => by cases b <;> simp [V.beq] at h; rfl
  | .pblk x y, b, h => by cases b <;> simp [V.beq] at h; rw [h.1, h.2]
  | .pimm x, b, h => by cases b <;> simp [V.beq] at h; rw [V.beqL_eq x _ h]
  | .pby t x, b, h => by cases b <;> simp [V.beq] at h; rw [h.1, V.beqL_eq x _ h.2]
  | .sl n x g, b, h => by
    cases b <;> simp [V.beq] at h
    rename_i m y g'
    obtain ⟨⟨h1, h2⟩, h3⟩ := h
    rw [h1, V.beqL_eq x _ h2]
    cases g <;> cases g' <;> simp at h3 <;> first | rfl | rw [h3.1, h3.2]
  | .ms _ _ _ _ _, b, h => by cases b <;> simp [V.beq] at h; obtain ⟨⟨⟨⟨h1, h2⟩, h3⟩, h4⟩, h5⟩ := h; rw [h1, h2, h3, h4, h5]
  | .fn f x, b, h => by cases b <;> simp [V.beq] at h; rw [h.1, V.beqL_eq x _ h.2]
  | .yld x, b, h => by cases b <;> simp [V.beq] at h; rw [h]
  | .nilfn, b, h => by cases b <;> simp [V.beq] at h; rfl
  | .ifc t x, b, h => by cases b <;> simp [V.beq] at h; rw [h.1, V.beq_eq x _ h.2]
  | .nilifc, b, h => by cases b <;> simp [V.beq] at h; rfl
  | .agg x, b, h => by cases b <;> simp [V.beq] at h; rw [V.beqL_eq x _ h]
  | .tup x, b, h => by cases b <;> simp [V.beq] at h; rw [V.beqL_eq x _ h]
  | .junk, b, h => by cases b <;> simp [V.beq] at h; rfl
theorem V.beqL_eq : ∀ (a b : List V), V.beqL a b = true → a = b
  | [], b, h => by cases b <;> simp [V.beqL] at h; rfl
  | x :: xs, b, h => by
    cases b <;> simp [V.beqL] at h
    rw [V.beq_eq x _ h.1, V.beqL_eq xs _ h.2]
end

theorem sameBlk_eq : ∀ (a b : List (Nat × List V)), sameBlk a b = true → a = b
  | [], b, h => by cases b <;> simp [sameBlk] at h; rfl
  | x :: xs, b, h => by
    cases b <;> simp [sameBlk] at h
    rename_i y ys
    obtain ⟨⟨h1, h2⟩, h3⟩ := h
    have h4 := V.beqL_eq _ _ h2
    rw [sameBlk_eq xs ys h3]
    have : x = y := Prod.ext h1 h4
    rw [this]

theorem sameLps_eq : ∀ (a b : List Lp), sameLps a b = true → (∀ (l : Nat) (p' : Lp), a[l]? = some p' → ∃ p : Lp, b[l]? = some p ∧ p'.core = p.core) → a = b
  | [], b, h, _ => by cases b <;> simp [sameLps] at h; rfl
  | x :: xs, b, h, k => by
    cases b <;> simp [sameLps] at h
    rename_i y ys
    obtain ⟨⟨⟨h1, h2⟩, h3⟩, h4⟩ := h
    rw [sameLps_eq xs ys h4 fun l p' hp => k (l + 1) p' (by simpa using hp)]
    obtain ⟨p, hp, hc⟩ := k 0 x (by simp)
    simp at hp
    subst hp
    have : x = y := by
      obtain ⟨xr, xd, xp, xt, xps, xa, xb⟩ := x
      obtain ⟨yr, yd, yp, yt, yps, ya, yb⟩ := y
      simp [Lp.core] at hc h1 h2 h3
      obtain ⟨c1, c2, c3, c4⟩ := hc
      subst h1 h2 c1 c2 c3 c4
      cases xp <;> cases yp <;> simp at h3
      rfl
    rw [this]

theorem same_eq {a b : H} (h : H.same a b = true) (k : ∀ (l : Nat) (p' : Lp), a.lps[l]? = some p' → ∃ p : Lp, b.lps[l]? = some p ∧ p'.core = p.core) : a = b := by
  simp only [H.same, Bool.and_eq_true] at h
  obtain ⟨⟨h1, h2⟩, h3⟩ := h
  obtain ⟨ab, at_, al⟩ := a
  obtain ⟨bb, bt, bl⟩ := b
  simp only at *
  rw [sameBlk_eq _ _ h1, sameLps_eq _ _ h3 k]
  have : at_ = bt := by simpa using h2
  rw [this]

section
variable {P : Program} {tab : Tab} {E : Env} {call : Caller} {fuel : Nat}

theorem LR.set1 {g : G} {tok : Toks} : ∀ {vs : List V} {cs : List Value}, LR P g tok vs cs → ∀ {i : Nat} {v : V} {c : Value}, cs[i]? = some c → VR P g tok v c → LR P g tok (vs.set i v) cs
  | [], cs, h, i, v, c, hc, hv => by simpa using h
  | x :: vs, cs, h, i, v, c, hc, hv => by
    simp only [LR] at h
    obtain ⟨c', cs', rfl, h1, h2⟩ := h
    cases i with
    | zero => simp only [List.getElem?_cons_zero, Option.some.injEq] at hc; subst hc; simp only [List.set_cons_zero, LR]; exact ⟨_, _, rfl, hv, h2⟩
    | succ i => simp only [List.getElem?_cons_succ] at hc; simp only [List.set_cons_succ, LR]; exact ⟨_, _, rfl, h1, LR.set1 h2 hc hv⟩

theorem empty_split {g : G} {tok : Toks} {gr : Gr} {c : Value} (hg : gr = .none ∨ gr = .exact) (h : VR P g tok (.sl 0 [] gr) c) : VR P g tok (.sl 0 [] .nil) c ∨ VR P g tok (.sl 0 [] .nn) c := by
  simp only [VR] at h
  obtain ⟨a, k, h1, h2, ⟨h3, h4⟩, h5⟩ := h
  cases a with
  | none => left; simp only [VR]; exact ⟨none, k, h1, .inl trivial, ⟨h3, h4⟩, rfl, h4 rfl⟩
  | some a => right; simp only [VR]; exact ⟨some a, k, h1, .inl trivial, ⟨h3, h4⟩, rfl⟩

theorem callFn_ok (hE : EnvOK P tab E) (hcall : CallOK P tab call) (hdc : CallDOK P tab call) (hp : ∀ n0 g0 h0 cs0 b, G.good g0 → (P.funcs[b.fn]?).isSome = true → PartsOK P tab n0 g0 h0 cs0 b E call fuel)
    {f : Nat} {args : List V} {h : H} {out : Out} (hs : callFn E call fuel f args .off h = some out) {g : G} {w : World} {cargs : List Value} (r : R P tab g h w) (tb : TabOK P tab g) (hl : LR P g h.tok args cargs)
    {fr : Frame} {cs : List Frame} {m : Machine} (hm : fr.mode = .run) (hgo : Goes P m fr cs ((callFunc f cargs.toArray).run P w)) :
    ∃ g' w' c, R P tab g' out.h w' ∧ Keeps h.blk.length g h g' out.h out.es out.et ∧
      match out.r with
      | .ret v => VR P g' out.h.tok v c ∧ Steps P m (lone (fr.finish c) cs w')
      | .pan v => VR P g' out.h.tok v c ∧ Steps P m (lone (fr.raise [{ v := c, recovered := false }]) cs w') := by
  have two : ∀ (i : Nat) (gr : Gr), gr = .none ∨ gr = .exact → args[i]? = some (.sl 0 [] gr) → ∀ a b, callFn1 E call fuel f (args.set i (.sl 0 [] .nil)) .off h = some a → callFn1 E call fuel f (args.set i (.sl 0 [] .nn)) .off h = some b → sameOut h a b = true →
      out = { r := a.r, h, rc := .off } → ∃ g' w' c, R P tab g' out.h w' ∧ Keeps h.blk.length g h g' out.h out.es out.et ∧
      match out.r with
      | .ret v => VR P g' out.h.tok v c ∧ Steps P m (lone (fr.finish c) cs w')
      | .pan v => VR P g' out.h.tok v c ∧ Steps P m (lone (fr.raise [{ v := c, recovered := false }]) cs w') := by
    intro i gr hgr hi a b ha hb hso ho
    obtain ⟨c, hc, hv⟩ := hl.get hi
    -- one of the two
    have one : ∀ (u : Out) (x : V), callFn1 E call fuel f (args.set i x) .off h = some u → VR P g h.tok x c → stayed h u = true → (∀ v, u.r = .ret v → out.r = .ret v) → (∃ v, u.r = .ret v) →
        ∃ g' w' c, R P tab g' out.h w' ∧ Keeps h.blk.length g h g' out.h out.es out.et ∧
        match out.r with
        | .ret v => VR P g' out.h.tok v c ∧ Steps P m (lone (fr.finish c) cs w')
        | .pan v => VR P g' out.h.tok v c ∧ Steps P m (lone (fr.raise [{ v := c, recovered := false }]) cs w') := by
      intro u x hu hx hst hr ⟨v, huv⟩
      obtain ⟨g1, w1, c1, r1, k1, hfr⟩ := callFn1_ok hE hcall hdc hp hu r tb (hl.set1 hc hx) hm hgo
      simp only [stayed, Bool.and_eq_true, List.isEmpty_iff] at hst
      obtain ⟨⟨⟨hsame, he⟩, het⟩, _⟩ := hst
      have hh := same_eq hsame k1.lps
      rw [huv] at hfr
      have hor := hr v huv
      rw [hh] at r1 k1 hfr
      rw [he, het] at k1
      refine ⟨g1, w1, c1, ?_, ?_, ?_⟩
      · rw [ho]; exact r1
      · rw [ho]; exact k1
      · rw [hor, ho]; exact hfr
    simp only [sameOut, Bool.and_eq_true] at hso
    obtain ⟨⟨h1, h2⟩, h3⟩ := hso
    have hab : ∃ v, a.r = .ret v ∧ b.r = .ret v := by
      split at h1
      · rename_i v u hav hbu
        exact ⟨v, hav, by rw [hbu, V.beq_eq _ _ h1]⟩
      · cases h1
    obtain ⟨v, hav, hbv⟩ := hab
    rcases empty_split hgr hv with hn | hn
    · exact one a _ ha hn h2 (fun v' e => by rw [ho]; exact e) ⟨v, hav⟩
    · exact one b _ hb hn h3 (fun v' e => by rw [ho, hav]; rw [hbv] at e; exact e) ⟨v, hbv⟩
  unfold callFn at hs
  split at hs
  · exact callFn1_ok hE hcall hdc hp hs r tb hl hm hgo
  · rename_i i hi
    split at hs
    · rename_i hargs
      dsimp only at hs
      split at hs
      · rename_i a b ha hb
        split at hs
        · rename_i hso
          simp only [Option.some.injEq] at hs
          exact two i .none (.inl rfl) hargs a b ha hb hso hs.symm
        · cases hs
      · cases hs
    · rename_i hargs
      dsimp only at hs
      split at hs
      · rename_i a b ha hb
        split at hs
        · rename_i hso
          simp only [Option.some.injEq] at hs
          exact two i .exact (.inr rfl) hargs a b ha hb hso hs.symm
        · cases hs
      · cases hs
    · exact callFn1_ok hE hcall hdc hp hs r tb hl hm hgo

theorem callFn_dok (hE : EnvOK P tab E) (hcall : CallOK P tab call) (hdc : CallDOK P tab call) (hp : ∀ n0 g0 h0 cs0 b, G.good g0 → (P.funcs[b.fn]?).isSome = true → PartsOK P tab n0 g0 h0 cs0 b E call fuel)
    {f : Nat} {args : List V} {rc : Rc} {h : H} {u : Out} {v : V} (hs : callFn E call fuel f args rc h = some u) (hu : u.r = .ret v) {g : G} {w : World} {cargs : List Value} (r : R P tab g h w) (tb : TabOK P tab g) (hl : LR P g h.tok args cargs)
    {c : Frame} {cs : List Frame} (hrc : rc = .dfr ∧ c.mode = .returning ∨ ∃ cv x, rc = .on x ∧ c.mode = .panicking [{ v := cv, recovered := false }] ∧ VR P g h.tok x cv) :
    (callFunc f cargs.toArray).run P w = .ok (.enter f cargs.toArray) w ∧ ∃ g' w', R P tab g' u.h w' ∧ Keeps h.blk.length g h g' u.h u.es u.et ∧
      Steps P (lone (Frame.enter P f cargs.toArray .deferred) (c :: cs) w) (lone { c with mode := modeAfter u.rc c.mode } cs w') := by
  unfold callFn at hs
  split at hs
  · exact callFn1_dok hE hcall hdc hp hs hu r tb hl hrc
  · have hne : rc ≠ .off := by
      rcases hrc with ⟨h, _⟩ | ⟨_, _, h, _⟩ <;> rw [h] <;> simp
    split at hs
    · split at hs
      · exact absurd rfl hne
      · cases hs
    · split at hs
      · exact absurd rfl hne
      · cases hs
    · exact callFn1_dok hE hcall hdc hp hs hu r tb hl hrc

end

end Go.Sim

/- A round of a loop over a function. Conditions: none. -/
set_option linter.unusedSimpArgs false
set_option linter.unusedVariables false
namespace Go.Sim

section
variable {P : Program} {tab : Tab} {g : G} {h : H} {w : World}

/-- A loop's record is written. -/
theorem R.setLp (r : R P tab g h w) {l : Nat} {p p' : Lp} (hp : h.lps[l]? = some p) {lc' : Loop} (hl : LpR P tab g h.tok p' lc') (w' : World) (hsz : w'.heap.size = w.heap.size) (hoth : ∀ k, k ≠ g.lp l → w'.heap[k]? = w.heap[k]?)
    (hself : w'.heap[g.lp l]? = some (.loop lc')) (hio : (w'.os, w'.output) = (w.os, w.output) := by rfl) : R P tab g (setLp h l p') w' := by
  obtain ⟨lc, ho, _, _⟩ := r.lps l p hp
  have hlt : l < h.lps.length := (List.getElem?_eq_some_iff.1 hp).1
  have hne : ∀ B, g.own B ≠ .lp l → w'.heap[B]? = w.heap[B]? := fun B hB => hoth B fun e => hB (e ▸ ho)
  constructor
  · intro b ty cs hb ho'
    obtain ⟨vs, h1, h2⟩ := r.blk b ty cs hb ho'
    exact ⟨vs, by rw [hne _ (by rw [ho']; simp)]; exact h1, h2⟩
  · intro B o hB; rw [hne B (by rw [hB]; simp)]; exact r.oOld B o hB
  · exact r.oBlk
  · intro B ty' f t hB; rw [hne B (by rw [hB]; simp)]; exact r.oRow B ty' f t hB
  · intro B l' hB
    obtain ⟨h1, h2⟩ := r.oLp B l' hB
    exact ⟨by simpa [Go.Sim.setLp] using h1, h2⟩
  · intro B hB; rw [hne B (by rw [hB]; simp)]; exact r.oDfr B hB
  · intro B hB; exact r.fresh B (by omega)
  · intro t m ty' hm
    obtain ⟨h1, f, h2, h3, arr, fz, h4, h5, h6⟩ := r.tok t m ty' hm
    exact ⟨h1, f, h2, h3, arr, fz, by rw [hne _ (by rw [h2]; simp)]; exact h4, h5, h6⟩
  · intro l' q hq
    simp only [Go.Sim.setLp, List.getElem?_set] at hq
    split at hq
    · rename_i e; subst e
      simp only [hlt, if_true, Option.some.injEq] at hq
      subst hq
      exact ⟨lc', ho, hself, hl⟩
    · rename_i e
      obtain ⟨lc2, h1, h2, h3⟩ := r.lps l' q hq
      exact ⟨lc2, h1, by rw [hne _ (by rw [h1]; intro e'; cases e'; exact e rfl)]; exact h2, h3⟩
  · exact hio.trans r.io

theorem Keeps.setLp (n0 : Nat) {l : Nat} {p p' : Lp} (hp : h.lps[l]? = some p) (hc : p'.core = p.core) : Keeps n0 g h g (setLp h l p') [] [] where
  ext := Ext.refl _ _
  len := Nat.le_refl _
  back := fun _ _ h => h
  blk := fun _ _ cs' _ h => ⟨cs', h, fun _ _ hc => .inl hc⟩
  lpl := by simp [Go.Sim.setLp]
  lps := fun l' q hq => by
    simp only [Go.Sim.setLp, List.getElem?_set] at hq
    split at hq
    · rename_i e; subst e
      split at hq
      · simp only [Option.some.injEq] at hq; subst hq; exact ⟨p, hp, hc⟩
      · cases hq
    · exact ⟨q, hq, rfl⟩

theorem run_getLoop {l : Nat} {lc : Loop} (hl : w.heap[l]? = some (.loop lc)) : (Instr.getLoop l).run P w = .ok lc w := by
  have h1 : (getObj l).run P w = .ok (.loop lc) w := by simp only [getObj, Sem.run, hl]
  simp only [Instr.getLoop, Sem.run_bind, h1, Result.andThen_ok]
  rfl

theorem run_setObj {l : Nat} {lc : Loop} {o' : Obj} (hl : w.heap[l]? = some (.loop lc)) : (setObj l o').run P w = .ok () { w with heap := w.heap.setIfInBounds l o' } := by
  simp only [setObj, Sem.run, hl]

theorem heap_set_self {l : Nat} {o o' : Obj} (hl : w.heap[l]? = some o) : (w.heap.setIfInBounds l o')[l]? = some o' := by
  have hlt := (Array.getElem?_eq_some_iff.1 hl).1
  simp [hlt]

theorem run_beginRound {l : Nat} {lc : Loop} (hl : w.heap[l]? = some (.loop lc)) (hs : lc.state = .ready) :
    (Instr.beginRound l).run P w = .ok () { w with heap := w.heap.setIfInBounds l (.loop { lc with state := .busy }) } := by
  simp only [Instr.beginRound, Sem.run_bind, run_getLoop hl, Result.andThen_ok, run_setObj hl, hs]
  rfl

theorem run_endRound {l : Nat} {lc : Loop} (hl : w.heap[l]? = some (.loop lc)) (jump : Option Code) :
    (Instr.endRound l jump).run P w = .ok (.bool jump.isNone) { w with heap := w.heap.setIfInBounds l (.loop { lc with state := if jump.isNone then .ready else .done, pending := jump }) } := by
  simp only [Instr.endRound, Sem.run_bind, run_getLoop hl, Result.andThen_ok, run_setObj hl]
  rfl

theorem run_yield {l : Nat} {lc : Loop} (hl : w.heap[l]? = some (.loop lc)) {args : Array Value} (hn : args.size = lc.params.size) :
    (Instr.yield l args).run P w = .ok (.round l lc.fn ((lc.params.zip args).foldl (fun tmps (t, a) => tmps.setIfInBounds t a) lc.tmps) lc.assign lc.body) w := by
  simp only [Instr.yield, Sem.run_bind, run_getLoop hl, Result.andThen_ok, hn, ne_eq, not_true_eq_false, if_false]
  rfl

theorem TR.puts {tok : Toks} : ∀ (ps : List Nat) (vs : List V) (cs : List Value) (tm : Tm) (tmps : Array Value), LR P g tok vs cs → TR P g tok tm tmps →
    TR P g tok ((ps.zip vs).foldl (fun tm (i, v) => tm.put i v) tm) ((ps.zip cs).foldl (fun tmps (t, a) => tmps.setIfInBounds t a) tmps)
  | [], vs, cs, tm, tmps, hl, ht => by simpa using ht
  | p :: ps, [], cs, tm, tmps, hl, ht => by simp only [LR] at hl; subst hl; simpa using ht
  | p :: ps, v :: vs, cs, tm, tmps, hl, ht => by
    simp only [LR] at hl
    obtain ⟨c, cs', rfl, h1, h2⟩ := hl
    simp only [List.zip_cons_cons, List.foldl_cons]
    refine TR.puts ps vs cs' _ _ h2 ?_
    have := TR.putD (a := { tmps, defers := [] }) ht (some p) h1
    exact this

variable {E : Env} {call : Caller} {fuel : Nat}

theorem callYld_ok (hcall : CallOK P tab call) (hp : ∀ n0 g0 h0 cs0 b, G.good g0 → (P.funcs[b.fn]?).isSome = true → PartsOK P tab n0 g0 h0 cs0 b E call fuel)
    {l : Nat} {args : List V} {out : Out} (hs : callYld E call fuel l args h = some out) {cargs : List Value} (r : R P tab g h w) (tb : TabOK P tab g) (hl : LR P g h.tok args cargs)
    {fr : Frame} {cs : List Frame} {m : Machine} (hm : fr.mode = .run) (hgo : Goes P m fr cs ((Instr.yield (g.lp l) cargs.toArray).run P w)) :
    ∃ g' w' c, R P tab g' out.h w' ∧ Keeps h.blk.length g h g' out.h out.es out.et ∧
      match out.r with
      | .ret v => VR P g' out.h.tok v c ∧ Steps P m (lone (fr.finish c) cs w')
      | .pan v => VR P g' out.h.tok v c ∧ Steps P m (lone (fr.raise [{ v := c, recovered := false }]) cs w') := by
  unfold callYld at hs
  split at hs
  · cases hs
  · rename_i p hpl
    obtain ⟨lc, ho, hw, L⟩ := r.lps l p hpl
    dsimp only at hs
    split at hs
    · rename_i hlen
      have hsz : cargs.toArray.size = lc.params.size := by
        have h1 := hl.length
        have h2 : args.length = p.params.length := by simpa using hlen
        have h3 : lc.params.toList.length = p.params.length := by rw [L.params]
        simp only [Array.length_toList] at h3
        simp only [List.size_toArray]
        omega
      rw [run_yield hw hsz] at hgo
      have hgo : step P m = .next (lone (Frame.round (g.lp l) lc.fn ((lc.params.zip cargs.toArray).foldl (fun tmps (t, a) => tmps.setIfInBounds t a) lc.tmps) lc.assign lc.body .normal) (fr :: cs) w) := hgo
      let b : Frame := { (default : Frame) with fn := lc.fn, kind := .normal, roundOf := some (g.lp l) }
      let a0 : Act := { tmps := (lc.params.zip cargs.toArray).foldl (fun tmps (t, a) => tmps.setIfInBounds t a) lc.tmps, defers := [] }
      have hb0 : Frame.round (g.lp l) lc.fn a0.tmps lc.assign lc.body .normal = b.atR a0 [.code lc.assign, .beginRound, .code lc.body] := by
        simp [Frame.round, Frame.atR, b, a0]
      have hgo : step P m = .next (lone (b.atR a0 [.code lc.assign, .beginRound, .code lc.body]) (fr :: cs) w) := by rw [← hb0]; exact hgo
      split at hs
      · rename_i s1 hrun1
        have S0 : SR P tab h.blk.length g h (fr :: cs) b g { tm := (p.params.zip args).foldl (fun tm (i, v) => tm.put i v) p.tm, h, rnd := true } a0 (fr :: cs) w := by
          refine ⟨r, tb, ?_, rfl, Keeps.refl _ _ _, Nat.le_refl _, ⟨rfl, rfl⟩, rfl⟩
          have := TR.puts p.params args cargs p.tm lc.tmps hl L.tm
          have e : a0.tmps = (p.params.zip cargs).foldl (fun tmps (t, a) => tmps.setIfInBounds t a) lc.tmps := by
            show (lc.params.zip cargs.toArray).foldl _ lc.tmps = _
            rw [← Array.foldl_toList, Array.toList_zip, L.params]
          rw [e]; exact this
        rw [← L.assign] at hrun1
        obtain ⟨g1, a1, cs1, w1, S1, e1, r1⟩ := run_ok hcall (hp h.blk.length g h (fr :: cs) b r.good L.fn) lc.assign [.beginRound, .code lc.body] g _ s1 a0 (fr :: cs) w .norm S0 hrun1
        have r1 : Steps P (lone (b.atR a0 [.code lc.assign, .beginRound, .code lc.body]) (fr :: cs) w) (lone (b.atR a1 [.beginRound, .code lc.body]) cs1 w1) := r1
        split at hs
        · cases hs
        · rename_i p1 hp1
          split at hs
          · rename_i hrd
            obtain ⟨lc1, ho1, hw1, L1⟩ := S1.r.lps l p1 hp1
            have hgl : g1.lp l = g.lp l := (S1.keep.ext.lp l ho).1
            have hcore1 : p1.core = p.core := by
              obtain ⟨q, hq, hc⟩ := S1.keep.lps l p1 hp1
              rw [hpl] at hq; cases hq; exact hc
            have hst1 : lc1.state = .ready := by rw [L1.state, hrd]; rfl
            rw [hgl] at hw1
            -- the round begins
            have hbr := run_beginRound (P := P) hw1 hst1
            have r2 := S1.r.setLp hp1 (p' := { p1 with ready := false, done := false }) (lc' := { lc1 with state := .busy })
              ⟨rfl, L1.pend, L1.pendX, L1.tm, L1.params, L1.assign, L1.body, L1.fn⟩ { w1 with heap := w1.heap.setIfInBounds (g.lp l) (.loop { lc1 with state := .busy }) } (by simp) (fun k hk => by
                rw [hgl] at hk; simp [Array.getElem?_setIfInBounds_ne (Ne.symm hk)]) (by rw [hgl]; exact heap_set_self hw1)
            have k2 : Keeps h.blk.length g1 s1.h g1 (setLp s1.h l { p1 with ready := false, done := false }) [] [] := Keeps.setLp _ hp1 rfl
            have hcs1 : ∀ (s : St) (g' : G) (cs' : List Frame) tok, RcR P g' tok s.rc b (fr :: cs) cs' → cs' = fr :: cs := by
              intro s g' cs' tok hr
              cases hrc : s.rc <;> rw [hrc] at hr
              · exact hr.1
              · exact hr.1
              · exact hr.1
              · exact absurd hr.1 (by simp [b])
            obtain rfl := hcs1 s1 g1 cs1 _ S1.rc
            have S2 : SR P tab h.blk.length g h (fr :: cs) b g1 { s1 with h := setLp s1.h l { p1 with ready := false, done := false } } a1 (fr :: cs) { w1 with heap := w1.heap.setIfInBounds (g.lp l) (.loop { lc1 with state := .busy }) } :=
              ⟨r2, S1.tb, S1.tm, S1.df, by simpa using S1.keep.trans k2, by simpa [setLp] using S1.hn, S1.rc, S1.rnd⟩
            have st2 : Steps P m (lone (b.atR a1 [.code lc.body]) (fr :: cs) { w1 with heap := w1.heap.setIfInBounds (g.lp l) (.loop { lc1 with state := .busy }) }) :=
              Steps.head hgo (r1.trans (.one (stepR_beginRound rfl hbr)))
            split at hs
            · cases hs
            · rename_i x s3 hrun2
              rw [← L.body] at hrun2
              obtain ⟨g3, a3, cs3, w3, S3, e3, r3⟩ := run_ok hcall (hp h.blk.length g h (fr :: cs) b r.good L.fn) lc.body [] g1 _ s3 a1 (fr :: cs) _ x S2 hrun2
              obtain rfl := hcs1 s3 g3 cs3 _ S3.rc
              split at hs
              · cases hs
              · rename_i hdf
                have hdf : s3.df = [] := by simpa using hdf
                have hdef : a3.defers = [] := by have := S3.df; rw [hdf] at this; exact this
                -- the round ends
                have fin3 : ∀ (jump : Option Code) (pd : Option X) (nx : Bool), jump = pd.map jumpOf → nx = pd.isNone → (∀ y, pd = some y → y = .ret ∨ ∃ id, y = .exit id) →
                    (∀ w', (Instr.endRound (g.lp l) jump).run P w3 = .ok (.bool jump.isNone) w' → Steps P m (lone (fr.finish (.bool jump.isNone)) cs w')) →
                    ∀ p2, s3.h.lps[l]? = some p2 → (let h3 := setLp s3.h l { p2 with ready := nx, done := !nx, pend := pd }; out = { r := .ret (fin h.blk.length h.tok.length false (.bool nx) h3 s3.es s3.et).1, h := (fin h.blk.length h.tok.length false (.bool nx) h3 s3.es s3.et).2, es := s3.es, et := s3.et }) →
                    ∃ g' w' c, R P tab g' out.h w' ∧ Keeps h.blk.length g h g' out.h out.es out.et ∧
                      match out.r with
                      | .ret v => VR P g' out.h.tok v c ∧ Steps P m (lone (fr.finish c) cs w')
                      | .pan v => VR P g' out.h.tok v c ∧ Steps P m (lone (fr.raise [{ v := c, recovered := false }]) cs w') := by
                  intro jump pd nx hj hnx hpx hstep p2 hp2 hout
                  dsimp only at hout
                  obtain ⟨lc3, ho3, hw3, L3⟩ := S3.r.lps l p2 hp2
                  have hgl3 : g3.lp l = g.lp l := (S3.keep.ext.lp l ho).1
                  rw [hgl3] at hw3
                  have her := run_endRound (P := P) hw3 jump
                  have r4 := S3.r.setLp hp2 (p' := { p2 with ready := nx, done := !nx, pend := pd }) (lc' := { lc3 with state := if jump.isNone then .ready else .done, pending := jump })
                    ⟨by subst hj hnx; cases pd <;> rfl, hj, hpx, L3.tm, L3.params, L3.assign, L3.body, L3.fn⟩ { w3 with heap := w3.heap.setIfInBounds (g.lp l) (.loop { lc3 with state := if jump.isNone then .ready else .done, pending := jump }) } (by simp) (fun k hk => by
                      rw [hgl3] at hk; simp [Array.getElem?_setIfInBounds_ne (Ne.symm hk)]) (by rw [hgl3]; exact heap_set_self hw3)
                  have k4 : Keeps h.blk.length g3 s3.h g3 (setLp s3.h l { p2 with ready := nx, done := !nx, pend := pd }) [] [] := Keeps.setLp _ hp2 rfl
                  have k5 : Keeps h.blk.length g h g3 (setLp s3.h l { p2 with ready := nx, done := !nx, pend := pd }) s3.es s3.et := by simpa using S3.keep.trans k4
                  have hjn : jump.isNone = nx := by subst hj hnx; cases pd <;> rfl
                  obtain ⟨g5, r5, v5, k6⟩ := fin_ok r r4 k5 (v := .bool nx) (c := .bool nx) (keep := false) (by simp only [VR]) _ _ rfl
                  subst hout
                  refine ⟨g5, _, .bool nx, r5, k6, v5, ?_⟩
                  have e : Value.bool jump.isNone = .bool nx := by rw [hjn]
                  rw [← e]; exact hstep _ her
                cases x with
                | pan v =>
                  simp only [Option.some.injEq] at hs
                  obtain ⟨c3, todo, hv3, htodo, hst3⟩ := r3
                  obtain ⟨g5, r5, v5, k6⟩ := fin_ok r S3.r S3.keep hv3 (keep := false) _ _ rfl
                  subst hs
                  refine ⟨g5, w3, c3, r5, k6, v5, st2.trans (Steps.trans hst3 (.one ?_))⟩
                  obtain ⟨fn, hfn⟩ := Option.isSome_iff_exists.1 L.fn
                  refine step_leave_panicked ⟨rfl, ?_, fn, hfn⟩
                  exact hdef
                | norm =>
                  simp only at hs
                  split at hs
                  · cases hs
                  · rename_i p2 hp2
                    simp only [Option.some.injEq] at hs
                    exact fin3 none none true rfl rfl (fun _ h => by cases h) (fun w' he => st2.trans (Steps.trans r3 (.one (stepR_round_end rfl rfl he)))) p2 hp2 hs.symm
                | ret =>
                  simp only at hs
                  split at hs
                  · cases hs
                  · rename_i p2 hp2
                    simp only [Option.some.injEq] at hs
                    obtain ⟨k1, h3⟩ := r3
                    exact fin3 (some .ret) (some .ret) false rfl rfl (fun _ h => by cases h; exact .inl rfl) (fun w' he => st2.trans (Steps.trans h3 (.one (stepR_round_ret rfl rfl he)))) p2 hp2 hs.symm
                | exit id =>
                  simp only at hs
                  split at hs
                  · cases hs
                  · rename_i p2 hp2
                    simp only [Option.some.injEq] at hs
                    obtain ⟨k1, hk1, h3⟩ := r3
                    exact fin3 (some (.exit id)) (some (.exit id)) false rfl rfl (fun _ h => by cases h; exact .inr ⟨_, rfl⟩) (fun w' he => st2.trans (Steps.trans h3 (.one (stepR_round_exit rfl rfl hk1 he)))) p2 hp2 hs.symm
          · cases hs
      · cases hs
    · cases hs

end

end Go.Sim

/- A range over a function. Conditions: none. -/
set_option linter.unusedSimpArgs false
set_option linter.unusedVariables false
namespace Go.Sim

section
variable {P : Program} {tab : Tab} {g : G} {h : H} {w : World}

/-- The call that a range over a function makes. -/
abbrev rcall (f : Operand) (l : Nat) : Call := { callee := .value f, args := #[.const (.func (.yield l) #[] #[])], argTypes := #[] }

theorem fin_inRange {b : Frame} {a : Act} {k : List Item} (l : Nat) (v : Value) : (b.atR a (.inRangeFunc l :: k)).finish v = b.atR a (.endRangeFunc l :: k) := by
  simp [Frame.finish, Frame.atR]

theorem step_endRange {b : Frame} {a : Act} {k : List Item} {cs : List Frame} {l : Nat} {jump : Option Code} {w' : World} (h : (Instr.endLoop l).run P w = .ok jump w') :
    step P (lone (b.atR a (.endRangeFunc l :: k)) cs w) = .next (lone (b.atR a ((jump.map Item.code).toList ++ k)) cs w') := by
  refine step_lone_go ?_
  simp [Go.stepG, Go.stepG.exec, Frame.atR, Sem.runT_eq, h, GStep.bare_after]

theorem alloc_self (w : World) (o : Obj) : (w.alloc o).heap[w.heap.size]? = some o := by
  show (w.heap.push o)[w.heap.size]? = some o
  simp

theorem goes_apply2 {fr0 fr : Frame} {cs : List Frame} {w0 w : World} {s : Sem Next} (h : (Go.stepG P true { frame := fr0, callers := cs, status := .running, dying := none } w0).bare = (Go.stepG.apply P true fr cs none s w).bare)
    {l : Nat} {k : List Item} (ht : fr.todo = .inRangeFunc l :: k) : Goes P (lone fr0 cs w0) fr cs (s.run P w) := by
  obtain ⟨fn, tmps, todo, defers, mode, kind, ro⟩ := fr
  simp only at ht
  generalize hr : s.run P w = res
  subst ht
  unfold Goes
  split <;> first
    | trivial
    | (refine step_lone_go ?_
       rw [h]; simp [Go.stepG.apply, Sem.runT_eq, hr]; done)
    | (intro hro
       simp only at hro
       subst hro
       split
       · rename_i hrec
         refine step_lone_go ?_
         rw [h]; simp [Go.stepG.apply, Sem.runT_eq, hr, hrec]
       · rename_i hrec
         refine step_lone_go ?_
         rw [h]; simp [Go.stepG.apply, Sem.runT_eq, hr, hrec])

theorem goes_range {b : Frame} {a : Act} {k : List Item} {cs : List Frame} {f : Operand} {ps : Array Tmp} {assign body : Code} {l : Nat} {mark : List Deferred} {w₁ : World} {d : Deferred}
    (he : (Instr.enterLoop b.fn a.tmps ps assign body b.roundOf).run P w = .ok (l, mark) w₁) (hres : (resolve a.eval (rcall f l) 0).run P w₁ = .ok d w₁) :
    Goes P (lone (b.atR a (.code (.rangeFunc f ps assign body) :: k)) cs w) (b.atR { a with defers := mark ++ a.defers } (.inRangeFunc l :: k)) cs ((invoke d.target d.args).run P w₁) := by
  have hev := Frame.eval_atR b { a with defers := mark ++ a.defers } (.inRangeFunc l :: k)
  have hres' : Sem.run P (resolve ({ tmps := a.tmps, defers := mark ++ a.defers } : Act).eval (rcall f l) 0) w₁ = .ok d w₁ := hres
  have hrun : (do let d ← resolve (b.atR { a with defers := mark ++ a.defers } (.inRangeFunc l :: k)).eval (rcall f l) 0; invoke d.target d.args : Sem Next).run P w₁ = (invoke d.target d.args).run P w₁ := by
    rw [hev]
    simp only [Sem.run_bind, hres', Result.andThen_ok]
  rw [← hrun]
  refine goes_apply2 (l := l) (k := k) ?_ rfl
  simp only [Go.stepG, Go.stepG.exec, Frame.atR, Sem.runT_eq, he, GStep.bare_after]

def G.newLoop (g : G) (l B : Nat) : G := { g with own := upd (upd g.own B .dfr) (B + 1) (.lp l), lp := upd g.lp l (B + 1) }

theorem G.newLoop_old {l B B' : Nat} (h1 : B' ≠ B) (h2 : B' ≠ B + 1) : (g.newLoop l B).own B' = g.own B' := by
  simp only [G.newLoop]; rw [upd_other _ _ h2, upd_other _ _ h1]

theorem Ext.newLoop (r : R P tab g h w) (tok : Toks) : Ext g tok (g.newLoop h.lps.length w.heap.size) tok := by
  have f0 := r.fresh w.heap.size (Nat.le_refl _)
  have f1 := r.fresh (w.heap.size + 1) (by omega)
  have ne : ∀ {B' : Nat}, g.own B' ≠ .free → B' ≠ w.heap.size ∧ B' ≠ w.heap.size + 1 := fun {B'} h => ⟨fun e => h (e ▸ f0), fun e => h (e ▸ f1)⟩
  constructor
  · intro B o v hv
    have hn : g.own B ≠ .free := fun e => by simp only [G.at, e] at hv; cases hv
    have := ne hn
    have e : (g.newLoop h.lps.length w.heap.size).at B o = g.at B o := by simp only [G.at, G.newLoop_old this.1 this.2]; rfl
    rw [e]; exact hv
  · intro b hb
    have := ne (by rw [hb]; simp)
    exact ⟨rfl, by rw [G.newLoop_old this.1 this.2]; exact hb⟩
  · intro l hl
    have := ne (by rw [hl]; simp)
    have hlt := (r.oLp _ l hl).1
    exact ⟨by simp only [G.newLoop]; rw [upd_other _ _ (by omega)], by rw [G.newLoop_old this.1 this.2]; exact hl⟩
  · intro B ty f t hB
    have := ne (by rw [hB]; simp)
    exact ⟨f, t, by rw [G.newLoop_old this.1 this.2]; exact hB⟩
  · intro t m ty hm; exact ⟨m, hm, Nat.le_refl _, fun _ => rfl⟩
  · intro B hB
    have := ne (by rw [hB]; simp)
    rw [G.newLoop_old this.1 this.2]; exact hB
  · intro B o hB
    have := ne (by rw [hB]; simp)
    rw [G.newLoop_old this.1 this.2]; exact hB
  · rfl

theorem R.newLoop (r : R P tab g h w) {p : Lp} {lc : Loop} (hl : LpR P tab g h.tok p lc) :
    R P tab (g.newLoop h.lps.length w.heap.size) { h with lps := h.lps ++ [p] } ((w.alloc (.deferred (some []))).alloc (.loop lc)) := by
  have e := Ext.newLoop r h.tok
  have f0 := r.fresh w.heap.size (Nat.le_refl _)
  have f1 := r.fresh (w.heap.size + 1) (by omega)
  have hold : ∀ (B : Nat) (o : Obj), w.heap[B]? = some o → ((w.alloc (.deferred (some []))).alloc (.loop lc)).heap[B]? = some o := fun B o hB => heap_alloc _ _ _ _ (heap_alloc _ _ _ _ hB)
  have hsz : ((w.alloc (.deferred (some []))).alloc (.loop lc)).heap.size = w.heap.size + 2 := by simp
  have hB0 : ((w.alloc (.deferred (some []))).alloc (.loop lc)).heap[w.heap.size]? = some (.deferred (some [])) := by
    exact heap_alloc _ _ _ _ (alloc_self _ _)
  have hB1 : ((w.alloc (.deferred (some []))).alloc (.loop lc)).heap[w.heap.size + 1]? = some (.loop lc) := by
    have := alloc_self (w.alloc (.deferred (some []))) (.loop lc)
    have hs : (w.alloc (.deferred (some []))).heap.size = w.heap.size + 1 := by simp
    rw [hs] at this; exact this
  have s0 : (g.newLoop h.lps.length w.heap.size).own w.heap.size = .dfr := by simp only [G.newLoop]; rw [upd_other _ _ (by omega), upd_same]
  have s1 : (g.newLoop h.lps.length w.heap.size).own (w.heap.size + 1) = .lp h.lps.length := by simp only [G.newLoop, upd_same]
  have back : ∀ {B : Nat} {x : Own}, (g.newLoop h.lps.length w.heap.size).own B = x → x ≠ .dfr → (∀ l, x ≠ .lp l) → g.own B = x := fun {B x} hx h1 h2 => by
    by_cases e0 : B = w.heap.size
    · subst e0; rw [s0] at hx; exact absurd hx.symm h1
    · by_cases e1 : B = w.heap.size + 1
      · subst e1; rw [s1] at hx; exact absurd hx.symm (h2 _)
      · rw [G.newLoop_old e0 e1] at hx; exact hx
  constructor
  · intro b ty cs hb ho
    obtain ⟨vs, h1, h2⟩ := r.blk b ty cs hb (back ho (by simp) (by simp))
    exact ⟨vs, hold _ _ h1, LR.mono e _ _ h2⟩
  · intro B o ho; exact hold _ _ (r.oOld B o (back ho (by simp) (by simp)))
  · intro B b ho; exact r.oBlk B b (back ho (by simp) (by simp))
  · intro B ty f t ho
    obtain ⟨arr, fz, h1, h2⟩ := r.oRow B ty f t (back ho (by simp) (by simp))
    exact ⟨arr, fz, hold _ _ h1, h2⟩
  · intro B l ho
    by_cases e1 : B = w.heap.size + 1
    · subst e1; rw [s1] at ho; cases ho
      exact ⟨by simp, by simp only [G.newLoop, upd_same]⟩
    · have e0 : B ≠ w.heap.size := fun e0 => by subst e0; rw [s0] at ho; cases ho
      rw [G.newLoop_old e0 e1] at ho
      obtain ⟨h1, h2⟩ := r.oLp B l ho
      exact ⟨by simp; omega, by simp only [G.newLoop]; rw [upd_other _ _ (by omega)]; exact h2⟩
  · intro B ho
    by_cases e0 : B = w.heap.size
    · subst e0; exact hB0
    · have e1 : B ≠ w.heap.size + 1 := fun e1 => by subst e1; rw [s1] at ho; cases ho
      rw [G.newLoop_old e0 e1] at ho
      exact hold _ _ (r.oDfr B ho)
  · intro B hB
    rw [hsz] at hB
    rw [G.newLoop_old (by omega) (by omega)]; exact r.fresh B (by omega)
  · intro t m ty hm
    obtain ⟨h1, f, h2, h3, arr, fz, h4, h5, h6⟩ := r.tok t m ty hm
    have hne : (g.tk t).blk ≠ w.heap.size ∧ (g.tk t).blk ≠ w.heap.size + 1 := ⟨fun e => (by rw [e, f0] at h2; cases h2), fun e => (by rw [e, f1] at h2; cases h2)⟩
    exact ⟨h1, f, by show (g.newLoop _ _).own (g.tk t).blk = _; rw [G.newLoop_old hne.1 hne.2]; exact h2, h3, arr, fz, hold _ _ h4, h5, h6⟩
  · intro l q hq
    rcases Nat.lt_or_ge l h.lps.length with hlt | hge
    · simp only at hq
      rw [List.getElem?_append_left hlt] at hq
      obtain ⟨lc2, h1, h2, h3⟩ := r.lps l q hq
      have hlp : (g.newLoop h.lps.length w.heap.size).lp l = g.lp l := by simp only [G.newLoop]; rw [upd_other _ _ (by omega)]
      have hne : g.lp l ≠ w.heap.size ∧ g.lp l ≠ w.heap.size + 1 := ⟨fun e => (by rw [e, f0] at h1; cases h1), fun e => (by rw [e, f1] at h1; cases h1)⟩
      exact ⟨lc2, by rw [hlp, G.newLoop_old hne.1 hne.2]; exact h1, by rw [hlp]; exact hold _ _ h2, h3.state, h3.pend, h3.pendX, h3.tm.mono e, h3.params, h3.assign, h3.body, h3.fn⟩
    · simp only at hq
      rw [List.getElem?_append_right hge] at hq
      have : l = h.lps.length := by
        have := (List.getElem?_eq_some_iff.1 hq).1
        simp at this; omega
      subst this
      simp only [Nat.sub_self, List.getElem?_cons_zero, Option.some.injEq] at hq
      subst hq
      have hlp : (g.newLoop h.lps.length w.heap.size).lp h.lps.length = w.heap.size + 1 := by simp only [G.newLoop, upd_same]
      exact ⟨lc, by rw [hlp]; exact s1, by rw [hlp]; exact hB1, hl.state, hl.pend, hl.pendX, hl.tm.mono e, hl.params, hl.assign, hl.body, hl.fn⟩
  · exact r.io

theorem Ext.tokLen {g g' : G} {a b : Toks} (e : Ext g a g' b) : a.length ≤ b.length := by
  rcases Nat.eq_zero_or_pos a.length with hz | hz
  · omega
  · obtain ⟨m', hm', _⟩ := e.tok (a.length - 1) (a[a.length - 1]'(by omega)).1 (a[a.length - 1]'(by omega)).2 (by rw [List.getElem?_eq_getElem (by omega)])
    have := (List.getElem?_eq_some_iff.1 hm').1
    omega

/-- A block of which nothing is known may change. -/
theorem R.freeSet (r : R P tab g h w) {B : Nat} (hB : g.own B = .free) (w' : World) (hsz : w'.heap.size = w.heap.size) (hoth : ∀ k, k ≠ B → w'.heap[k]? = w.heap[k]?) (hio : (w'.os, w'.output) = (w.os, w.output) := by rfl) : R P tab g h w' := by
  have hne : ∀ B', g.own B' ≠ .free → w'.heap[B']? = w.heap[B']? := fun B' hn => hoth B' fun e => hn (e ▸ hB)
  constructor
  · intro b ty cs hb ho
    obtain ⟨vs, h1, h2⟩ := r.blk b ty cs hb ho
    exact ⟨vs, by rw [hne _ (by rw [ho]; simp)]; exact h1, h2⟩
  · intro B' o ho; rw [hne _ (by rw [ho]; simp)]; exact r.oOld B' o ho
  · exact r.oBlk
  · intro B' ty f t ho; rw [hne _ (by rw [ho]; simp)]; exact r.oRow B' ty f t ho
  · exact r.oLp
  · intro B' ho; rw [hne _ (by rw [ho]; simp)]; exact r.oDfr B' ho
  · intro B' hge; exact r.fresh B' (by omega)
  · intro t m ty hm
    obtain ⟨h1, f, h2, h3, arr, fz, h4, h5, h6⟩ := r.tok t m ty hm
    exact ⟨h1, f, h2, h3, arr, fz, by rw [hne _ (by rw [h2]; simp)]; exact h4, h5, h6⟩
  · intro l p hp
    obtain ⟨lc, h1, h2, h3⟩ := r.lps l p hp
    exact ⟨lc, h1, by rw [hne _ (by rw [h1]; simp)]; exact h2, h3⟩
  · exact hio.trans r.io

theorem run_endLoop {l : Nat} {lc : Loop} (hl : w.heap[l]? = some (.loop lc)) (hs : lc.state ≠ .busy) :
    (Instr.endLoop l).run P w = .ok lc.pending { w with heap := w.heap.setIfInBounds l (.loop { lc with state := .exhausted }) } := by
  have hb : (lc.state == .busy) = false := by
    cases hst : lc.state <;> first | rfl | exact absurd hst hs
  simp only [Instr.endLoop, Sem.run_bind, run_getLoop hl, Result.andThen_ok, hb, Bool.false_eq_true, if_false, run_setObj hl]
  rfl

variable {n0 : Nat} {g0 : G} {h0 : H} {cs0 : List Frame} {b : Frame} {E : Env} {call : Caller} {fuel : Nat}

theorem range_ok (hcall : CallOK P tab call) (hgood : G.good g0) (hfn : (P.funcs[b.fn]?).isSome = true) (f : Operand) (ps : Array Tmp) (as body : Code) (o : O) (ho : operand tab f = some o) :
    CodeOK P tab n0 g0 h0 cs0 b (run E call fuel n0 (.rangeF o ps.toList (code P tab as) (code P tab body))) (.rangeFunc f ps as body) := by
  intro k g s s' a cs w x S hs
  simp only [run] at hs
  split at hs
  · cases hs
  · rename_i hrnd
    have hro : b.roundOf = none := by
      have := S.rnd
      cases hb : b.roundOf with
      | none => rfl
      | some l => rw [hb] at this; simp at this; exact absurd this hrnd
    have hv := operand_ok S.tb S.tm ho
    split at hs
    · rename_i fid caps hev
      rw [hev] at hv
      simp only [VR] at hv
      obtain ⟨cvs, hcv, hcl⟩ := hv
      split at hs
      · cases hs
      · rename_i u hu
        split at hs
        · cases hs
        · rename_i hlen
          obtain ⟨hlb, hll⟩ : u.h.blk.length = s.h.blk.length ∧ u.h.lps.length = s.h.lps.length + 1 := by omega
          split at hs
          · cases hs
          · rename_i p hp
            -- the record is laid
            let lc : Loop := { state := .ready, pending := none, fn := b.fn, tmps := a.tmps, params := ps, assign := as, body := body, defers := w.heap.size }
            let p0 : Lp := { ready := true, done := false, pend := none, tm := s.tm, params := ps.toList, assign := code P tab as, body := code P tab body }
            have L0 : LpR P tab g s.h.tok p0 lc := ⟨rfl, rfl, fun _ h => (by cases h), S.tm, rfl, rfl, rfl, hfn⟩
            have R1 := S.r.newLoop L0
            have e1 := Ext.newLoop S.r s.h.tok
            have he : (Instr.enterLoop b.fn a.tmps ps as body b.roundOf).run P w = .ok (w.heap.size + 1, [{ target := .collected w.heap.size, args := #[] }]) ((w.alloc (.deferred (some []))).alloc (.loop lc)) := by
              rw [hro]
              have n1 : (newObj (.deferred (some []))).run P w = .ok w.heap.size (w.alloc (.deferred (some []))) := rfl
              have n2 : (newObj (.loop lc)).run P (w.alloc (.deferred (some []))) = .ok (w.alloc (.deferred (some []))).heap.size ((w.alloc (.deferred (some []))).alloc (.loop lc)) := rfl
              simp only [Instr.enterLoop, Sem.run_bind, n1, Result.andThen_ok]
              have hsz : (w.alloc (.deferred (some []))).heap.size = w.heap.size + 1 := by simp
              rw [hsz] at n2
              simp only [Sem.run_pure, Result.andThen_ok]
              have n2' : (newObj (.loop { state := .ready, pending := none, fn := b.fn, tmps := a.tmps, params := ps, assign := as, body := body, defers := w.heap.size })).run P (w.alloc (.deferred (some []))) = .ok (w.heap.size + 1) ((w.alloc (.deferred (some []))).alloc (.loop lc)) := n2
              rw [n2']
              rfl
            let d : Deferred := { target := .fn (.func fid) cvs.toArray, args := #[.func (.yield (w.heap.size + 1)) #[] #[]] }
            have hres : (resolve a.eval (rcall f (w.heap.size + 1)) 0).run P ((w.alloc (.deferred (some []))).alloc (.loop lc)) = .ok d ((w.alloc (.deferred (some []))).alloc (.loop lc)) := by
              show (Deferred.ofValue (a.eval f) _).run P _ = _
              rw [hcv]; simp [Deferred.ofValue, rcall, d, Act.eval]
            have hgo := goes_range (k := k) (cs := cs) he hres
            let a' : Act := { a with defers := [{ target := .collected w.heap.size, args := #[] }] ++ a.defers }
            have hdr : DfR P (g.newLoop s.h.lps.length w.heap.size) s.h.tok (.fn fid caps) [.yld s.h.lps.length] d := by
              refine ⟨[.func (.yield (w.heap.size + 1)) #[] #[]], ?_, rfl, cvs, LR.mono e1 _ _ hcl, rfl⟩
              simp only [LR, VR]
              exact ⟨_, [], rfl, ⟨by simp [G.newLoop], by simp [G.newLoop]⟩, rfl⟩
            obtain ⟨g2, w2, c, r2, k2, hfr⟩ := hcall _ _ _ u hu (g.newLoop s.h.lps.length w.heap.size) _ d R1 (S.tb.mono e1) hdr (b.atR a' (.inRangeFunc (w.heap.size + 1) :: k)) cs _ rfl hgo
            obtain ⟨lc2, ho2, hw2, L2⟩ := r2.lps _ p hp
            have hg2 : g2.lp s.h.lps.length = w.heap.size + 1 := by
              have := (k2.ext.lp s.h.lps.length (by simp [G.newLoop])).1
              rw [this]; simp [G.newLoop]
            rw [hg2] at ho2 hw2
            -- what is forgotten
            have htl : s.h.tok.length ≤ u.h.tok.length := (e1.trans k2.ext).tokLen
            have R3 := R.trunc (n0 := u.h.blk.length) (m0 := u.h.tok.length) (l0 := s.h.lps.length) (tok' := u.h.tok) r2 (by omega) (Nat.le_refl _) (fun _ _ => rfl) (fun _ _ hx => hx)
              (fun bb ty cs1 hb1 ho1 hcs1 => by
                obtain ⟨cs0', hc0, hk⟩ := k2.blk bb ty cs1 (by simpa [hlb] using hb1) hcs1
                have hown1 := k2.back bb (by simpa [hlb] using hb1) ho1
                have hown0 : g.own (g.phi bb) = .blk bb := by
                  have f0 : (g.newLoop s.h.lps.length w.heap.size).own w.heap.size = .dfr := by simp only [G.newLoop]; rw [upd_other _ _ (by omega), upd_same]
                  have f1 : (g.newLoop s.h.lps.length w.heap.size).own (w.heap.size + 1) = .lp s.h.lps.length := by simp only [G.newLoop, upd_same]
                  have hphi : (g.newLoop s.h.lps.length w.heap.size).phi bb = g.phi bb := rfl
                  rw [hphi] at hown1
                  rw [G.newLoop_old (fun e => (by rw [e, f0] at hown1; cases hown1)) (fun e => (by rw [e, f1] at hown1; cases hown1))] at hown1
                  exact hown1
                obtain ⟨vs0, _, hr0⟩ := S.r.blk bb ty cs0' hc0 hown0
                obtain ⟨vs1, _, hr1⟩ := r2.blk bb ty cs1 hcs1 ho1
                refine V.closedL_of fun i c' hc' => ?_
                obtain ⟨cv1, _, hv1⟩ := hr1.get hc'
                have hcl1 := closed_of r2 hv1
                refine ⟨hcl1.1, hcl1.2.1, ?_⟩
                rcases hk i c' hc' with hs0 | ⟨e1', _, _⟩
                · obtain ⟨cv, _, hv0⟩ := hr0.get hs0
                  exact (closed_of S.r hv0).2.2
                · simp [e1'])
              (fun l' q hl' hq i => by
                obtain ⟨q0, hq0, hcore⟩ := k2.lps l' q hq
                simp only [List.getElem?_append_left hl'] at hq0
                obtain ⟨lc', _, _, hL⟩ := S.r.lps l' q0 hq0
                have htm : q.tm = q0.tm := congrArg (·.1) hcore
                rw [htm]
                cases hi : q0.tm.has i with
                | false => rw [Tm.get_not_has _ _ hi]; exact closed_junk _ _ _
                | true =>
                  obtain ⟨cv, _, hv0⟩ := hL.tm i hi
                  exact (closed_of S.r hv0).mono (by omega) htl (Nat.le_refl _))
            rw [List.take_length] at R3
            have R3 : R P tab (g2.trunc u.h.blk.length s.h.lps.length w2) { u.h with lps := u.h.lps.take s.h.lps.length } w2 := R3
            have e3 : Ext g s.h.tok (g2.trunc u.h.blk.length s.h.lps.length w2) u.h.tok := Ext.trunc S.r (e1.trans k2.ext) (by omega) (Nat.le_refl _) (fun _ _ => rfl)
            have k3 : Keeps s.h.blk.length g s.h (g2.trunc u.h.blk.length s.h.lps.length w2) { u.h with lps := u.h.lps.take s.h.lps.length } u.es u.et := by
              refine ⟨e3, by simp; omega, fun bb hb1 ho1 => ?_, fun bb ty cs' hb1 hcs => ?_, by simp; omega, fun l' q hq => ?_⟩
              · have hown2 : g2.own (g2.phi bb) = .blk bb := by
                  simp only [G.trunc] at ho1
                  split at ho1
                  · rename_i b' hb'
                    split at ho1
                    · cases ho1; exact hb'
                    · split at ho1 <;> cases ho1
                  · split at ho1 <;> cases ho1
                  · rename_i h1 h2; rw [ho1] at h1; exact absurd rfl (h1 bb)
                have hown1 := k2.back bb hb1 hown2
                have f0 : (g.newLoop s.h.lps.length w.heap.size).own w.heap.size = .dfr := by simp only [G.newLoop]; rw [upd_other _ _ (by omega), upd_same]
                have f1 : (g.newLoop s.h.lps.length w.heap.size).own (w.heap.size + 1) = .lp s.h.lps.length := by simp only [G.newLoop, upd_same]
                have hphi : (g.newLoop s.h.lps.length w.heap.size).phi bb = g.phi bb := rfl
                rw [hphi] at hown1
                rw [G.newLoop_old (fun e => (by rw [e, f0] at hown1; cases hown1)) (fun e => (by rw [e, f1] at hown1; cases hown1))] at hown1
                exact hown1
              · exact k2.blk bb ty cs' hb1 hcs
              · simp only [List.getElem?_take] at hq
                split at hq
                · rename_i hlt
                  obtain ⟨q0, hq0, hcore⟩ := k2.lps l' q hq
                  simp only [List.getElem?_append_left hlt] at hq0
                  exact ⟨q0, hq0, hcore⟩
                · cases hq
            have k4 := S.keep.trans (k3.down S.hn)
            have own3 : (g2.trunc u.h.blk.length s.h.lps.length w2).own w.heap.size = .dfr := by
              have : g2.own w.heap.size = .dfr := k2.ext.dfr _ (by simp only [G.newLoop]; rw [upd_other _ _ (by omega), upd_same])
              simp only [G.trunc, this]
            have free0 : g0.own w.heap.size = .free := by
              have f0 := S.r.fresh w.heap.size (Nat.le_refl _)
              have ex := S.keep.ext
              cases h0o : g0.own w.heap.size with
              | free => rfl
              | old oo => have := ex.old _ _ h0o; rw [f0] at this; cases this
              | blk bb =>
                have hphi := hgood.1 _ _ h0o
                have := (ex.blk bb (by rw [hphi]; exact h0o)).2
                rw [hphi, f0] at this; cases this
              | row ty ff tt => obtain ⟨f', t', h3⟩ := ex.row _ _ _ _ h0o; rw [f0] at h3; cases h3
              | lp ll =>
                have hlp := hgood.2 _ _ h0o
                have := (ex.lp ll (by rw [hlp]; exact h0o)).2
                rw [hlp, f0] at this; cases this
              | dfr => have := ex.dfr _ h0o; rw [f0] at this; cases this
            have notin : ∀ (ds : List D) (l : List Deferred), DfL P g0 g s.h.tok ds l → ∀ dd ∈ l, dd.target ≠ .collected w.heap.size := by
              intro ds
              induction ds with
              | nil => intro l hl dd hdd; simp only [DfL] at hl; subst hl; simp at hdd
              | cons D ds ih =>
                intro l hl dd hdd
                cases D with
                | coll =>
                  obtain ⟨r', ds', rfl, h2, h3, h4, h5⟩ := hl
                  rcases List.mem_cons.1 hdd with rfl | hdd
                  · intro e
                    simp only [Target.collected.injEq] at e
                    subst e
                    rw [S.r.fresh w.heap.size (Nat.le_refl _)] at h2; cases h2
                  · exact ih _ h5 dd hdd
                | fn ff vv =>
                  obtain ⟨d', ds', rfl, h2, ⟨id, caps', rfl⟩, h4⟩ := hl
                  rcases List.mem_cons.1 hdd with rfl | hdd
                  · obtain ⟨_, _, _, cc, _, h6⟩ := h2
                    rw [h6]; simp
                  · exact ih _ h4 dd hdd
            have S3 : ∀ w3, R P tab (g2.trunc u.h.blk.length s.h.lps.length w2) { u.h with lps := u.h.lps.take s.h.lps.length } w3 →
                SR P tab n0 g0 h0 cs0 b (g2.trunc u.h.blk.length s.h.lps.length w2) { s with h := { u.h with lps := u.h.lps.take s.h.lps.length }, es := u.es.filter (·.1 < n0) ++ s.es, et := u.et.filter (·.1 < n0) ++ s.et, df := .coll :: s.df } a' cs w3 := fun w3 r3 =>
              ⟨r3, S.tb.mono e3, S.tm.mono e3, ⟨w.heap.size, a.defers, rfl, own3, free0, notin _ _ S.df, S.df.mono e3⟩, k4, by have := S.hn; simp only; omega, S.rc.mono e3, S.rnd⟩
            split at hs
            · rename_i v hur
              split at hs
              · rename_i hy
                simp only [Option.some.injEq, Prod.mk.injEq] at hs
                obtain ⟨rfl, rfl⟩ := hs
                rw [hur] at hfr
                obtain ⟨hvr, hst⟩ := hfr
                have hcl2 := closed_of r2 hvr
                have hv3 : VR P (g2.trunc u.h.blk.length s.h.lps.length w2) u.h.tok v c := VR.trunc (fun _ _ => rfl) _ _ hvr ⟨hcl2.1, hcl2.2.1, by simpa using hy⟩
                refine ⟨_, a', cs, w2, S3 w2 R3, e3, c, .inRangeFunc (w.heap.size + 1) :: k, hv3, by simp, ?_⟩
                rw [← Frame.raise_atR]; exact hst
              · cases hs
            · rename_i v hur
              split at hs
              · rename_i hrd
                simp only [Option.some.injEq, Prod.mk.injEq] at hs
                obtain ⟨rfl, rfl⟩ := hs
                rw [hur] at hfr
                obtain ⟨hvr, hst⟩ := hfr
                rw [fin_inRange] at hst
                have hnb : lc2.state ≠ .busy := by
                  rw [L2.state]
                  cases h1 : p.ready
                  · rw [h1] at hrd
                    have h2 : p.done = true := by simpa using hrd
                    simp [h2]
                  · simp
                have hel := run_endLoop (P := P) hw2 hnb
                have hfree : (g2.trunc u.h.blk.length s.h.lps.length w2).own (w.heap.size + 1) = .free := by
                  simp only [G.trunc, ho2]
                  simp
                have R4 := R3.freeSet hfree { w2 with heap := w2.heap.setIfInBounds (w.heap.size + 1) (.loop { lc2 with state := .exhausted }) } (by simp) (fun j hj => by simp [Array.getElem?_setIfInBounds_ne (Ne.symm hj)])
                have st := Steps.trans hst (.one (step_endRange (b := b) (a := a') (k := k) (cs := cs) hel))
                generalize ({ w2 with heap := w2.heap.setIfInBounds (w.heap.size + 1) (.loop { lc2 with state := .exhausted }) } : World) = w4 at R4 st
                rw [L2.pend] at st
                refine ⟨_, a', cs, _, S3 _ R4, e3, ?_⟩
                cases hpd : p.pend with
                | none => rw [hpd] at st; exact st
                | some y =>
                  rw [hpd] at st
                  rcases L2.pendX y hpd with rfl | ⟨id, rfl⟩
                  · exact ⟨k, st⟩
                  · exact ⟨k, rfl, st⟩
              · cases hs
    · cases hs

end

end Go.Sim

/- The orders that a region may be carried out in. Conditions: none. -/
set_option linter.unusedSimpArgs false
set_option linter.unusedVariables false
namespace Go.Sim

/-- A row of operations, each behind what it waits for; all of them. -/
def Sched (n : Nat) (bef : Nat → List Nat) : (Nat → Prop) → List Nat → Prop
  | D, [] => ∀ i, i < n → D i
  | D, i :: l => i < n ∧ ¬ D i ∧ (∀ k, k ∈ bef i → D k) ∧ Sched n bef (fun k => k = i ∨ D k) l

theorem Sched.congr {n : Nat} {bef : Nat → List Nat} : ∀ {l : List Nat} {D D' : Nat → Prop}, (∀ k, D k ↔ D' k) → Sched n bef D l → Sched n bef D' l
  | [], D, D', hd, h => fun i hi => (hd i).1 (h i hi)
  | i :: l, D, D', hd, h => ⟨h.1, fun hn => h.2.1 ((hd i).2 hn), fun k hk => (hd k).1 (h.2.2.1 k hk), Sched.congr (fun k => by rw [hd k]) h.2.2.2⟩

def befAt (ops : Array Oper) (i : Nat) : List Nat := (befs ops.toList).getD i []

theorem befs_fold (ops : List Oper) (acc : List (List Nat)) :
    (ops.foldl (fun acc o => acc ++ [(o.after.toList.flatMap fun e => if Region.binds .any e then e.on :: acc.getD e.on [] else []).eraseDups]) acc).length = acc.length + ops.length ∧
    (∀ i, i < acc.length → (ops.foldl (fun acc o => acc ++ [(o.after.toList.flatMap fun e => if Region.binds .any e then e.on :: acc.getD e.on [] else []).eraseDups]) acc)[i]? = acc[i]?) ∧
    ∀ (i : Nat) (o : Oper), ops[i]? = some o → ∃ pre : List (List Nat), pre.length = acc.length + i ∧ (∀ j, j < pre.length → (ops.foldl (fun acc o => acc ++ [(o.after.toList.flatMap fun e => if Region.binds .any e then e.on :: acc.getD e.on [] else []).eraseDups]) acc)[j]? = pre[j]?) ∧
      (ops.foldl (fun acc o => acc ++ [(o.after.toList.flatMap fun e => if Region.binds .any e then e.on :: acc.getD e.on [] else []).eraseDups]) acc)[acc.length + i]? = some (o.after.toList.flatMap fun e => if Region.binds .any e then e.on :: pre.getD e.on [] else []).eraseDups := by
  induction ops generalizing acc with
  | nil => simp
  | cons o ops ih =>
    simp only [List.foldl_cons]
    obtain ⟨h1, h2, h3⟩ := ih (acc ++ [(o.after.toList.flatMap fun e => if Region.binds .any e then e.on :: acc.getD e.on [] else []).eraseDups])
    refine ⟨by rw [h1]; simp; omega, fun i hi => ?_, fun i o' ho' => ?_⟩
    · rw [h2 i (by simp; omega), List.getElem?_append_left hi]
    · cases i with
      | zero =>
        simp only [List.getElem?_cons_zero, Option.some.injEq] at ho'
        subst ho'
        refine ⟨acc, by simp, fun j hj => ?_, ?_⟩
        · rw [h2 j (by simp; omega), List.getElem?_append_left hj]
        · rw [h2 _ (by simp), Nat.add_zero, List.getElem?_append_right (Nat.le_refl _)]; simp
      | succ i =>
        simp only [List.getElem?_cons_succ] at ho'
        obtain ⟨pre, hp1, hp2, hp3⟩ := h3 i o' ho'
        refine ⟨pre, by rw [hp1]; simp; omega, hp2, ?_⟩
        have : acc.length + (i + 1) = (acc ++ [(o.after.toList.flatMap fun e => if Region.binds .any e then e.on :: acc.getD e.on [] else []).eraseDups]).length + i := by simp; omega
        rw [this]; exact hp3

theorem befs_length (ops : List Oper) : (befs ops).length = ops.length := by
  have := (befs_fold ops []).1
  simpa [befs] using this

theorem befAt_mem {ops : Array Oper} (ha : aftOk ops.toList = true) {i : Nat} {o : Oper} (ho : ops[i]? = some o) {k : Nat} (hk : k ∈ befAt ops i) : ∃ e ∈ o.after, Region.binds .any e = true ∧ e.on < i ∧ (k = e.on ∨ k ∈ befAt ops e.on) := by
  obtain ⟨pre, hp1, hp2, hp3⟩ := (befs_fold ops.toList []).2.2 i o (by simpa using ho)
  have hi : (befs ops.toList)[i]? = some (o.after.toList.flatMap fun e => if Region.binds .any e then e.on :: pre.getD e.on [] else []).eraseDups := by
    simpa [befs] using hp3
  unfold befAt at hk
  rw [List.getD_eq_getElem?_getD, hi] at hk
  simp only [Option.getD_some, List.mem_eraseDups, List.mem_flatMap] at hk
  obtain ⟨e, he, hk⟩ := hk
  have hlt : Region.binds .any e = true → e.on < i := by
    simp only [aftOk, List.all_eq_true, List.mem_range] at ha
    have h1 := ha i (by have := (Array.getElem?_eq_some_iff.1 ho).1; simpa using this)
    have h2 : ops.toList[i]? = some o := by simpa using ho
    rw [h2] at h1
    simp only [List.all_eq_true, Bool.or_eq_true, Bool.not_eq_true'] at h1
    exact fun hb => (h1 e he).elim (fun h => by rw [hb] at h; cases h) fun h => Nat.blt_eq.mp h
  split at hk
  · rename_i hb
    have hlt := hlt hb
    refine ⟨e, by simpa using he, hb, hlt, ?_⟩
    rcases List.mem_cons.1 hk with hk | hk
    · exact .inl hk
    · right
      have h1 := hp2 e.on (by rw [hp1]; simp; omega)
      have h2 : (befs ops.toList)[e.on]? = pre[e.on]? := by simpa [befs] using h1
      unfold befAt
      rw [List.getD_eq_getElem?_getD, h2, ← List.getD_eq_getElem?_getD]; exact hk
  · simp at hk

theorem befAt_lt {ops : Array Oper} (ha : aftOk ops.toList = true) : ∀ (i : Nat) {o : Oper} (ho : ops[i]? = some o) {k : Nat}, k ∈ befAt ops i → k < i := by
  intro i
  induction i using Nat.strongRecOn with
  | ind i ih =>
    intro o ho k hk
    obtain ⟨e, he, hb, hlt, hk⟩ := befAt_mem ha ho hk
    rcases hk with rfl | hk
    · exact hlt
    · have hsz := (Array.getElem?_eq_some_iff.1 ho).1
      have := ih e.on hlt (o := ops[e.on]'(by omega)) (Array.getElem?_eq_getElem (by omega)) hk
      omega

theorem linearise_sched {ops : Array Oper} (ha : aftOk ops.toList = true) : ∀ (fuel t : Nat) (listed : Array Bool), listed.size = ops.size → ((List.range ops.size).filter fun i => !listed.getD i true).length ≤ fuel →
    (∀ i, listed.getD i false = true → ∀ k ∈ befAt ops i, listed.getD k false = true) →
    Sched ops.size (befAt ops) (fun k => listed.getD k false = true) (Region.linearise.go .any ops fuel t listed []) := by
  intro fuel
  -- what is not listed is waited for by none of what is
  have getD_eq : ∀ (listed : Array Bool) (i : Nat), listed.size = ops.size → i < ops.size → listed.getD i true = listed.getD i false := fun listed i hs hi => by
    simp [Array.getD, hs, hi]
  have done : ∀ (listed : Array Bool), listed.size = ops.size → Region.ready .any ops listed = [] → ∀ i, i < ops.size → listed.getD i false = true := by
    intro listed hs hr i
    induction i using Nat.strongRecOn with
    | ind i ih =>
      intro hi
      cases hl : listed.getD i false with
      | true => rfl
      | false =>
        have : i ∈ Region.ready .any ops listed := by
          rw [mem_ready]
          refine ⟨by rw [getD_eq _ _ hs hi]; exact hl, ops[i], Array.getElem?_eq_getElem hi, fun e he hbe => ?_⟩
          have hlt : e.on < i := by
            simp only [aftOk, List.all_eq_true, List.mem_range] at ha
            have h1 := ha i (by simpa using hi)
            have h2 : ops.toList[i]? = some ops[i] := by simp [hi]
            rw [h2] at h1
            simp only [List.all_eq_true, Bool.or_eq_true, Bool.not_eq_true'] at h1
            exact (h1 e (by simpa using he)).elim (fun h => by rw [hbe] at h; cases h) fun h => Nat.blt_eq.mp h
          exact ih e.on hlt (by omega)
        rw [hr] at this; cases this
  induction fuel with
  | zero =>
    intro t listed hs hc hcl
    simp only [Region.linearise.go, List.reverse_nil, Sched]
    intro i hi
    have h0 : ((List.range ops.size).filter fun i => !listed.getD i true) = [] := List.length_eq_zero_iff.1 (by omega)
    rw [List.filter_eq_nil_iff] at h0
    have := h0 i (by simpa using hi)
    rw [← getD_eq _ _ hs hi]
    simpa using this
  | succ fuel ih =>
    intro t listed hs hc hcl
    simp only [Region.linearise.go]
    change Sched ops.size (befAt ops) _ (match (Region.ready .any ops listed)[t % (Region.ready .any ops listed).length]? with
      | some i => Region.linearise.go .any ops fuel (t / (Region.ready .any ops listed).length) (listed.setIfInBounds i true) [i]
      | none => [].reverse)
    cases hi : (Region.ready .any ops listed)[t % (Region.ready .any ops listed).length]? with
    | none =>
      have hnil : Region.ready .any ops listed = [] := by
        cases hr : Region.ready .any ops listed with
        | nil => rfl
        | cons x xs =>
          rw [hr] at hi
          have hlt : t % (x :: xs).length < (x :: xs).length := Nat.mod_lt _ (by simp)
          rw [List.getElem?_eq_none_iff] at hi
          omega
      simp only [List.reverse_nil, Sched]
      exact done listed hs hnil
    | some i =>
      simp only []
      rw [linearise_go_acc, List.reverse_singleton, List.singleton_append]
      have hm := List.mem_of_getElem? hi
      rw [mem_ready] at hm
      obtain ⟨h0, o, ho, hall⟩ := hm
      have hisz := (Array.getElem?_eq_some_iff.1 ho).1
      have hnew : ∀ k, (listed.setIfInBounds i true).getD k false = true ↔ (k = i ∨ listed.getD k false = true) := by
        intro k
        by_cases hk : k = i
        · subst hk
          simp [Array.getD, hs, hisz]
        · rw [show (listed.setIfInBounds i true).getD k false = listed.getD k false by
            simp [Array.getD_eq_getD_getElem?, Array.getElem?_setIfInBounds_ne (Ne.symm hk)]]
          simp [hk]
      have hbi : ∀ k ∈ befAt ops i, listed.getD k false = true := by
        intro k hk
        obtain ⟨e, he, hb, hlt, hk⟩ := befAt_mem ha ho hk
        have hd := hall e he hb
        rcases hk with rfl | hk
        · exact hd
        · exact hcl _ hd k hk
      refine ⟨hisz, ?_, hbi, ?_⟩
      · show ¬ (listed.getD i false = true)
        rw [← getD_eq _ _ hs hisz, h0]; simp
      · refine Sched.congr hnew (ih _ _ (by simpa using hs) ?_ ?_)
        · -- one less is not listed
          have hlt : ((List.range ops.size).filter fun j => !(listed.setIfInBounds i true).getD j true).length < ((List.range ops.size).filter fun j => !listed.getD j true).length := by
            have hsub : ((List.range ops.size).filter fun j => !(listed.setIfInBounds i true).getD j true) = ((List.range ops.size).filter fun j => !listed.getD j true).filter fun j => decide (j ≠ i) := by
              rw [List.filter_filter]
              refine List.filter_congr fun j hj => ?_
              have hjs : j < ops.size := by simpa using hj
              by_cases hji : j = i
              · subst hji
                simp [Array.getD, hs, hjs]
              · have : (listed.setIfInBounds i true).getD j true = listed.getD j true := by
                  simp [Array.getD_eq_getD_getElem?, Array.getElem?_setIfInBounds_ne (Ne.symm hji)]
                simp [this, hji]
            rw [hsub]
            have hmem : i ∈ (List.range ops.size).filter fun j => !listed.getD j true := by
              rw [List.mem_filter]; exact ⟨by simpa using hisz, by simp [h0]⟩
            exact List.length_filter_lt_length_iff_exists.2 ⟨i, hmem, by simp⟩
          omega
        · intro j hj k hk
          rw [hnew] at hj ⊢
          rcases hj with rfl | hj
          · exact .inr (hbi k hk)
          · exact .inr (hcl j hj k hk)

theorem schedule_sched {ops : Array Oper} (ha : aftOk ops.toList = true) {mixed : Bool} (hm : mixed = true) (t : Nat) : Sched ops.size (befAt ops) (fun _ => False) (Region.schedule mixed ops t) := by
  have key : ∀ t, Sched ops.size (befAt ops) (fun _ => False) (Region.linearise .any ops t) := fun t => by
    unfold Region.linearise
    refine Sched.congr (fun k => ?_) (linearise_sched ha ops.size t (Array.replicate ops.size false) (by simp) ?_ ?_)
    · simp [Array.getD_eq_getD_getElem?, Array.getElem?_replicate]; split <;> simp
    · exact Nat.le_trans (List.length_filter_le _ _) (by simp)
    · intro i hi
      simp [Array.getD_eq_getD_getElem?, Array.getElem?_replicate] at hi
      split at hi <;> simp at hi
  unfold Region.schedule
  rw [hm, Bool.true_or, if_pos rfl]
  exact key _

end Go.Sim

/- A region that draws its order: what the evaluator's run of it says. Conditions: none. -/
set_option linter.unusedSimpArgs false
set_option linter.unusedVariables false
namespace Go.Sim

section
variable {call : Caller} {wr : Nat → Bool} {n0 : Nat}

theorem hoist_spec : ∀ (os : List Op1) (b : Nat), (hoist b os).2.length = os.length ∧
    (∀ (i : Nat) (o' : Op1) bb ty z, (hoist b os).2[i]? = some o' → o'.op = .mat bb ty z → b ≤ bb ∧ bb < b + (hoist b os).1.length) ∧
    (∀ (i j : Nat) (oi oj : Op1) bi ti zi bj tj zj, i < j → (hoist b os).2[i]? = some oi → (hoist b os).2[j]? = some oj → oi.op = .mat bi ti zi → oj.op = .mat bj tj zj → bi < bj) ∧
    ∀ (i : Nat) (o' : Op1), (hoist b os).2[i]? = some o' → ∃ o, os[i]? = some o ∧ o'.dst = o.dst ∧ o'.grd = o.grd ∧ o'.bef = o.bef ∧
      ((o'.op = o.op ∧ o'.args = o.args ∧ (∀ c ty z, o'.op ≠ .mat c ty z)) ∨ (∃ bb ty z, o.op = .new ty z ∧ o'.op = .mat bb ty z ∧ o'.args = []) ∨ (o'.op = .dfr ∧ o'.args = []))
  | [], b => by simp [hoist]
  | o :: os, b => by
    -- an operation that stays, or is refused
    have other : ∀ (x : Op1), x.dst = o.dst → x.grd = o.grd → x.bef = o.bef → (∀ c ty z, x.op ≠ .mat c ty z) → ((x.op = o.op ∧ x.args = o.args) ∨ (x.op = .dfr ∧ x.args = [])) →
        hoist b (o :: os) = ((hoist b os).1, x :: (hoist b os).2) → (hoist b (o :: os)).2.length = (o :: os).length ∧
        (∀ (i : Nat) (o' : Op1) bb ty z, (hoist b (o :: os)).2[i]? = some o' → o'.op = .mat bb ty z → b ≤ bb ∧ bb < b + (hoist b (o :: os)).1.length) ∧
        (∀ (i j : Nat) (oi oj : Op1) bi ti zi bj tj zj, i < j → (hoist b (o :: os)).2[i]? = some oi → (hoist b (o :: os)).2[j]? = some oj → oi.op = .mat bi ti zi → oj.op = .mat bj tj zj → bi < bj) ∧
        ∀ (i : Nat) (o' : Op1), (hoist b (o :: os)).2[i]? = some o' → ∃ o1, (o :: os)[i]? = some o1 ∧ o'.dst = o1.dst ∧ o'.grd = o1.grd ∧ o'.bef = o1.bef ∧
          ((o'.op = o1.op ∧ o'.args = o1.args ∧ (∀ c ty z, o'.op ≠ .mat c ty z)) ∨ (∃ bb ty z, o1.op = .new ty z ∧ o'.op = .mat bb ty z ∧ o'.args = []) ∨ (o'.op = .dfr ∧ o'.args = [])) := by
      intro x h1 h2 h3 h4 h5 he
      obtain ⟨i1, i2, i3, i4⟩ := hoist_spec os b
      rw [he]
      refine ⟨by simp [i1], fun i o' bb ty z ho hm => ?_, fun i j oi oj bi ti zi bj tj zj hij hoi hoj hmi hmj => ?_, fun i o' ho => ?_⟩
      · cases i with
        | zero => simp only [List.getElem?_cons_zero, Option.some.injEq] at ho; subst ho; exact absurd hm (h4 _ _ _)
        | succ i => simp only [List.getElem?_cons_succ] at ho; exact i2 i o' bb ty z ho hm
      · cases i with
        | zero => simp only [List.getElem?_cons_zero, Option.some.injEq] at hoi; subst hoi; exact absurd hmi (h4 _ _ _)
        | succ i =>
          cases j with
          | zero => omega
          | succ j => simp only [List.getElem?_cons_succ] at hoi hoj; exact i3 i j oi oj bi ti zi bj tj zj (by omega) hoi hoj hmi hmj
      · cases i with
        | zero =>
          simp only [List.getElem?_cons_zero, Option.some.injEq] at ho; subst ho
          refine ⟨o, by simp, h1, h2, h3, ?_⟩
          rcases h5 with ⟨h5, h6⟩ | h5
          · exact .inl ⟨h5, h6, h4⟩
          · exact .inr (.inr h5)
        | succ i => simp only [List.getElem?_cons_succ] at ho; obtain ⟨o1, h, rest⟩ := i4 i o' ho; exact ⟨o1, by simpa using h, rest⟩
    cases hop : o.op with
    | new ty z =>
      have he : hoist b (o :: os) = ((ty, z) :: (hoist (b + 1) os).1, { o with op := .mat b ty z, args := [] } :: (hoist (b + 1) os).2) := by
        simp only [hoist, hop]
      obtain ⟨i1, i2, i3, i4⟩ := hoist_spec os (b + 1)
      rw [he]
      refine ⟨by simp [i1], fun i o' bb ty' z' ho hm => ?_, fun i j oi oj bi ti zi bj tj zj hij hoi hoj hmi hmj => ?_, fun i o' ho => ?_⟩
      · cases i with
        | zero =>
          simp only [List.getElem?_cons_zero, Option.some.injEq] at ho; subst ho
          simp only [A.mat.injEq] at hm
          simp only [List.length_cons]; omega
        | succ i =>
          simp only [List.getElem?_cons_succ] at ho
          have := i2 i o' bb ty' z' ho hm
          simp only [List.length_cons]; omega
      · cases j with
        | zero => omega
        | succ j =>
          simp only [List.getElem?_cons_succ] at hoj
          cases i with
          | zero =>
            simp only [List.getElem?_cons_zero, Option.some.injEq] at hoi; subst hoi
            simp only [A.mat.injEq] at hmi
            have := i2 j oj bj tj zj hoj hmj
            omega
          | succ i => simp only [List.getElem?_cons_succ] at hoi; exact i3 i j oi oj bi ti zi bj tj zj (by omega) hoi hoj hmi hmj
      · cases i with
        | zero =>
          simp only [List.getElem?_cons_zero, Option.some.injEq] at ho; subst ho
          exact ⟨o, by simp, rfl, rfl, rfl, .inr (.inl ⟨b, ty, z, hop, rfl, rfl⟩)⟩
        | succ i => simp only [List.getElem?_cons_succ] at ho; obtain ⟨o1, h, rest⟩ := i4 i o' ho; exact ⟨o1, by simpa using h, rest⟩
    | mat c ty z => exact other { o with op := .dfr, args := [] } rfl rfl rfl (by simp) (.inr ⟨rfl, rfl⟩) (by simp only [hoist, hop])
    | _ => exact other o rfl rfl rfl (by simp [hop]) (.inl ⟨rfl, rfl⟩) (by simp only [hoist, hop])

theorem draw1_spec {j : Nat} {o : Op1} {rest : List Op1} {d d' : Dr} {x : X} (h : draw1 call wr n0 j o rest d = some (x, d')) :
    (wanted o.grd d.s.tm = some false ∧ x = .norm ∧ d' = { d with s := { d.s with tm := putD d.s.tm o.dst undefV } }) ∨
    (wanted o.grd d.s.tm = some true ∧ (∀ p ∈ d.hs, p.1 ∈ o.bef) ∧ ∃ s, step1 call n0 o d.s = some (.norm, s) ∧ (∀ r ∈ d.rd, r.1 ∈ o.bef ∨ quiet1 call n0 r.2.1 r.2.2.1 s.h = some r.2.2.2) ∧ x = .norm ∧ d' = { s, hs := (j, d.s.h) :: d.hs, rd := d.rd }) ∨
    (∃ v s, wanted o.grd d.s.tm = some true ∧ (∀ p ∈ d.hs, p.1 ∈ o.bef) ∧ step1 call n0 o d.s = some (.pan v, s) ∧ (∀ p ∈ rest, j ∈ p.bef) ∧ x = .pan v ∧ d' = { d with s }) ∨
    (∃ v, wanted o.grd d.s.tm = some true ∧ quiet1 call n0 o.op (o.args.map (O.ev d.s.tm)) d.s.h = some v ∧ (∀ p ∈ d.hs, p.1 ∈ o.bef ∨ quiet1 call n0 o.op (o.args.map (O.ev d.s.tm)) p.2 = some v) ∧ x = .norm ∧
      d' = { d with s := { d.s with tm := putD d.s.tm o.dst v }, rd := (j, o.op, o.args.map (O.ev d.s.tm), v) :: d.rd }) := by
  have beq : ∀ (q : Option V) (v : V), (match q with | some u => V.beq u v | none => false) = true → q = some v := fun q v hq => by
    cases q with
    | none => cases hq
    | some u => rw [V.beq_eq _ _ hq]
  unfold draw1 at h
  split at h
  · cases h
  · rename_i hw
    simp only [Option.some.injEq, Prod.mk.injEq] at h
    exact .inl ⟨hw, h.1.symm, h.2.symm⟩
  · rename_i hw
    simp only at h
    split at h
    · split at h
      · rename_i hall
        have hhs : ∀ p ∈ d.hs, p.1 ∈ o.bef := fun p hp => by
          have := List.all_eq_true.1 hall p hp
          simpa using this
        split at h
        · rename_i s hs
          split at h
          · rename_i hrd
            simp only [Option.some.injEq, Prod.mk.injEq] at h
            refine .inr (.inl ⟨hw, hhs, s, hs, fun r hr => ?_, h.1.symm, h.2.symm⟩)
            have := List.all_eq_true.1 hrd r hr
            simp only [Bool.or_eq_true] at this
            rcases this with this | this
            · exact .inl (by simpa using this)
            · exact .inr (beq _ _ this)
          · cases h
        · rename_i v s hs
          split at h
          · rename_i hre
            simp only [Option.some.injEq, Prod.mk.injEq] at h
            refine .inr (.inr (.inl ⟨v, s, hw, hhs, hs, fun p hp => ?_, h.1.symm, h.2.symm⟩))
            have := List.all_eq_true.1 hre p hp
            simpa using this
          · cases h
        · cases h
      · cases h
    · split at h
      · cases h
      · rename_i v hv
        split at h
        · rename_i hall
          simp only [Option.some.injEq, Prod.mk.injEq] at h
          refine .inr (.inr (.inr ⟨v, hw, hv, fun p hp => ?_, h.1.symm, h.2.symm⟩))
          have := List.all_eq_true.1 hall p hp
          simp only [Bool.or_eq_true] at this
          rcases this with this | this
          · exact .inl (by simpa using this)
          · exact .inr (beq _ _ this)
        · cases h

theorem drawRun_trace : ∀ (os : List Op1) (j : Nat) (d : Dr) (x : X) (d' : Dr), drawRun call wr n0 os j d = some (x, d') →
    ∃ (N : Nat) (f : Nat → Dr), f 0 = d ∧ N ≤ os.length ∧ (∀ i, i < N → ∃ o, os[i]? = some o ∧ draw1 call wr n0 (j + i) o (os.drop (i + 1)) (f i) = some (.norm, f (i + 1))) ∧
      ((x = .norm ∧ N = os.length ∧ f N = d') ∨ (x ≠ .norm ∧ ∃ o, os[N]? = some o ∧ draw1 call wr n0 (j + N) o (os.drop (N + 1)) (f N) = some (x, d')))
  | [], j, d, x, d', h => by
    simp only [drawRun, Option.some.injEq, Prod.mk.injEq] at h
    exact ⟨0, fun _ => d, rfl, Nat.le_refl _, fun i hi => absurd hi (Nat.not_lt_zero _), .inl ⟨h.1.symm, rfl, h.2⟩⟩
  | o :: os, j, d, x, d', h => by
    simp only [drawRun] at h
    split at h
    · rename_i d1 h1
      obtain ⟨N, f, h0, hN, hf, hend⟩ := drawRun_trace os (j + 1) d1 x d' h
      refine ⟨N + 1, fun i => match i with | 0 => d | i + 1 => f i, rfl, by simp; omega, fun i hi => ?_, ?_⟩
      · cases i with
        | zero => exact ⟨o, by simp, by simpa [h0] using h1⟩
        | succ i =>
          obtain ⟨o', ho', hd⟩ := hf i (by omega)
          refine ⟨o', by simpa using ho', ?_⟩
          rw [show j + (i + 1) = j + 1 + i by omega]
          simpa using hd
      · rcases hend with ⟨e1, e2, e3⟩ | ⟨e1, o', ho', hd⟩
        · exact .inl ⟨e1, by simp [e2], e3⟩
        · refine .inr ⟨e1, o', by simpa using ho', ?_⟩
          rw [show j + (N + 1) = j + 1 + N by omega]
          simpa using hd
    · rename_i hn
      refine ⟨0, fun _ => d, rfl, Nat.zero_le _, fun i hi => absurd hi (Nat.not_lt_zero _), .inr ⟨fun e => ?_, o, by simp, by simpa using h⟩⟩
      subst e
      exact hn _ h

theorem val_same {h h' : H} {v : V} {rs : Rs} (he : val h v = some (rs, h')) : h' = h := by
  simp only [val, Option.some.injEq, Prod.mk.injEq] at he; exact he.2.symm
theorem valO_same {h h' : H} {v : Option V} {rs : Rs} (he : valO h v = some (rs, h')) : h' = h := by
  obtain ⟨_, _, _, e⟩ := valO_some he; exact e

theorem ex_val_same {op : A} {vs : List V} {h h' : H} {v : V} (he : ex n0 op vs h = some (.val v, h')) (h1 : ∀ ty z, op ≠ .new ty z) (h2 : ∀ ty n, op ≠ .box ty n) (h3 : ∀ a b c d, op ≠ .mkS a b c d) (h4 : ∀ a b c, op ≠ .append a b c) : h' = h := by
  cases op with
  | new ty z => exact absurd rfl (h1 _ _)
  | box ty n => exact absurd rfl (h2 _ _)
  | mkS a b c d => exact absurd rfl (h3 _ _ _ _)
  | append a b c => exact absurd rfl (h4 _ _ _)
  | _ =>
    simp only [ex, exMov, exPick, exBuild, exBuildSl, exLoad, exStore, exNilc, exBin, exAggEq, exUn, exToInt, exS2b, exB2s, exToUns, exFromUns, exMkI, exSlice, exOff, exFld, exIxA, exIxS, exIxG, exExt, exAsrt, exSame, exLen, exCap, exMax, exMin, exSliData, exStrData, exPan, exCall, exDfr, exRecov, reduceCtorEq] at he
    repeat' (split at he)
    all_goals first
      | (cases he; done)
      | exact val_same he
      | exact valO_same he
      | (simp only [Option.some.injEq, Prod.mk.injEq] at he; exact he.2.symm)

theorem stepR_tm {o : Op1} {s s1 : St} {h : H} {rs : Rs} {x : X} (hs : stepR call n0 o s h rs = some (x, s1)) (T : Tm) :
    (x = .norm ∧ ∃ v, s1.tm = putD s.tm o.dst v ∧ stepR call n0 o { s with tm := T } h rs = some (.norm, { s1 with tm := putD T o.dst v })) ∨
    (x ≠ .norm ∧ s1.tm = s.tm ∧ stepR call n0 o { s with tm := T } h rs = some (x, { s1 with tm := T })) := by
  cases rs with
  | val v =>
    simp only [stepR, Option.some.injEq, Prod.mk.injEq] at hs
    obtain ⟨rfl, rfl⟩ := hs
    exact .inl ⟨rfl, v, rfl, rfl⟩
  | done es et =>
    simp only [stepR, Option.some.injEq, Prod.mk.injEq] at hs
    obtain ⟨rfl, rfl⟩ := hs
    exact .inl ⟨rfl, undefV, rfl, rfl⟩
  | pan v =>
    simp only [stepR, Option.some.injEq, Prod.mk.injEq] at hs
    obtain ⟨rfl, rfl⟩ := hs
    exact .inr ⟨by simp, rfl, rfl⟩
  | dfr f vs =>
    simp only [stepR] at hs
    split at hs
    · cases hs
    · rename_i hr
      have hr : s.rnd = false := by simpa using hr
      simp only [Option.some.injEq, Prod.mk.injEq] at hs
      obtain ⟨rfl, rfl⟩ := hs
      exact .inl ⟨rfl, undefV, rfl, by simp [stepR, hr]⟩
  | recov =>
    simp only [stepR] at hs
    split at hs
    · cases hs
    · rename_i hr
      have hr : s.rnd = false := by simpa using hr
      split at hs
      · rename_i v hv
        simp only [Option.some.injEq, Prod.mk.injEq] at hs
        obtain ⟨rfl, rfl⟩ := hs
        exact .inl ⟨rfl, v, rfl, by simp [stepR, hr, hv]⟩
      · rename_i hv
        simp only [Option.some.injEq, Prod.mk.injEq] at hs
        obtain ⟨rfl, rfl⟩ := hs
        refine .inl ⟨rfl, .nilifc, rfl, ?_⟩
        simp only [stepR, hr, Bool.false_eq_true, if_false]
  | call f vs =>
    simp only [stepR] at hs
    split at hs
    · cases hs
    · rename_i u hu
      split at hs
      · rename_i v hv
        simp only [Option.some.injEq, Prod.mk.injEq] at hs
        obtain ⟨rfl, rfl⟩ := hs
        exact .inl ⟨rfl, v, rfl, by simp [stepR, hu, hv]⟩
      · rename_i v hv
        simp only [Option.some.injEq, Prod.mk.injEq] at hs
        obtain ⟨rfl, rfl⟩ := hs
        exact .inr ⟨by simp, rfl, by simp [stepR, hu, hv]⟩

end

end Go.Sim

