/- Regions that draw their order; the evaluator's calls are the machine's; calls from the start; results handed on. Conditions: none. -/
import Derived.Test.YthegbcgdpkpiiaaGreatDoorSimE
import Derived.ChangeArms
import Derived.FnData
import Derived.Lib.Bytealg
import Derived.Lib.Builder
import Derived.LaidLaws
import Derived.Laws.Externs
set_option linter.all false
/- A region that draws its order. Conditions: none. -/
set_option linter.unusedSimpArgs false
set_option linter.unusedVariables false
namespace Go.Sim

section
variable {P : Program} {tab : Tab} {n0 : Nat} {g0 : G} {h0 : H} {cs0 : List Frame} {b : Frame} {call : Caller} {wr : Nat → Bool}

/-- An operation of a region that draws, its compiled form's new variables laid ahead. -/
def DrR (P : Program) (tab : Tab) (ops : Array Oper) (bB bE : Nat) (i : Nat) (o1 : Op1) : Prop :=
  ∃ o, ops[i]? = some o ∧ o1.dst = o.dst ∧ (match o.guard with | none => o1.grd = none | some (j, w) => ∃ t, (ops[j]?).bind (·.dst) = some t ∧ o1.grd = some (t, w)) ∧
    ((opA P tab o.op = some (o1.op, o1.args) ∧ ∀ c ty z, o1.op ≠ .mat c ty z) ∨ (∃ bb ty z, o1.op = .mat bb ty z.asCells ∧ bB ≤ bb ∧ bb < bE ∧ o.op = .alloc ty ∧ zeroOf P ty = some z) ∨ (o1.op = .dfr ∧ o1.args = []))

structure Dz (P : Program) (tab : Tab) (n0 : Nat) (call : Caller) (wr : Nat → Bool) (ops : Array Oper) (os : List Op1) (N : Nat) (f : Nat → Dr) (bB bE : Nat) : Prop where
  len : os.length = ops.size
  befLt : ∀ (i : Nat) (o : Op1), os[i]? = some o → ∀ k ∈ o.bef, k < i
  one : ∀ (i j : Nat) (oi oj : Op1), i ≠ j → os[i]? = some oi → os[j]? = some oj → ∀ t, oi.dst = some t → oj.dst ≠ some t ∧ (t ∈ oj.looks → i ∈ oj.bef ∨ j ∈ oi.bef)
  rel : ∀ (i : Nat) (o : Op1), os[i]? = some o → DrR P tab ops bB bE i o
  ne : ∀ (i j : Nat) (oi oj : Op1) bi ti zi bj tj zj, i ≠ j → os[i]? = some oi → os[j]? = some oj → oi.op = .mat bi ti zi → oj.op = .mat bj tj zj → bi ≠ bj
  le : N ≤ os.length
  tr : ∀ i, i < N → ∃ o, os[i]? = some o ∧ draw1 call wr n0 i o (os.drop (i + 1)) (f i) = some (.norm, f (i + 1))

def Wr (f : Nat → Dr) (i : Nat) : Prop := (f (i + 1)).hs.length ≠ (f i).hs.length

structure Dy (os : List Op1) (N : Nat) (f : Nat → Dr) (bE : Nat) (D : Nat → Prop) (p : Nat) (T : Tm) (g : G) : Prop where
  sub : ∀ i, D i → i < N
  cl : ∀ i, D i → ∀ (o : Op1), os[i]? = some o → ∀ k ∈ o.bef, D k
  pN : p ≤ N
  wrs : ∀ k, k < N → Wr f k → (D k ↔ k < p)
  has : ∀ t, T.has t = (f 0).s.tm.has t
  val : ∀ i, D i → ∀ (o : Op1) (t : Nat), os[i]? = some o → o.dst = some t → T.has t = true → T.get t = (f (i + 1)).s.tm.get t
  old : ∀ t, (∀ (i : Nat) (o : Op1), D i → os[i]? = some o → o.dst ≠ some t) → T.get t = (f 0).s.tm.get t
  ph : ∀ (i : Nat) (o : Op1) bb ty z, ¬ D i → os[i]? = some o → o.op = .mat bb ty z → g.own (g.phi bb) ≠ .blk bb
  bl : bE ≤ (f p).s.h.blk.length

variable {ops : Array Oper} {os : List Op1} {N : Nat} {f : Nat → Dr} {bB bE : Nat}

/-- One operation of the evaluator's run: passed by, a writer, or quiet. -/
theorem Dz.cases (Z : Dz P tab n0 call wr ops os N f bB bE) {i : Nat} (hi : i < N) {o : Op1} (ho : os[i]? = some o) :
    (¬ Wr f i ∧ wanted o.grd (f i).s.tm = some false ∧ f (i + 1) = { f i with s := { (f i).s with tm := putD (f i).s.tm o.dst undefV } }) ∨
    (Wr f i ∧ wanted o.grd (f i).s.tm = some true ∧ (∀ p ∈ (f i).hs, p.1 ∈ o.bef) ∧ ∃ s, step1 call n0 o (f i).s = some (.norm, s) ∧ (∀ r ∈ (f i).rd, r.1 ∈ o.bef ∨ quiet1 call n0 r.2.1 r.2.2.1 s.h = some r.2.2.2) ∧ f (i + 1) = { s, hs := (i, (f i).s.h) :: (f i).hs, rd := (f i).rd }) ∨
    (¬ Wr f i ∧ ∃ v, wanted o.grd (f i).s.tm = some true ∧ quiet1 call n0 o.op (o.args.map (O.ev (f i).s.tm)) (f i).s.h = some v ∧ (∀ p ∈ (f i).hs, p.1 ∈ o.bef ∨ quiet1 call n0 o.op (o.args.map (O.ev (f i).s.tm)) p.2 = some v) ∧
      f (i + 1) = { f i with s := { (f i).s with tm := putD (f i).s.tm o.dst v }, rd := (i, o.op, o.args.map (O.ev (f i).s.tm), v) :: (f i).rd }) := by
  obtain ⟨o', ho', hd⟩ := Z.tr i hi
  rw [ho] at ho'; cases ho'
  rcases draw1_spec hd with ⟨h1, _, h2⟩ | ⟨h1, h2, s, h3, h4, _, h5⟩ | ⟨v, s, _, _, _, _, hx, _⟩ | ⟨v, h1, h2, h3, _, h4⟩
  · exact .inl ⟨by simp [Wr, h2], h1, h2⟩
  · exact .inr (.inl ⟨by simp [Wr, h5], h1, h2, s, h3, h4, h5⟩)
  · cases hx
  · exact .inr (.inr ⟨by simp [Wr, h4], v, h1, h2, h3, h4⟩)

theorem step1_norm {o : Op1} {s s1 : St} (h : step1 call n0 o s = some (.norm, s1)) : ∃ v, s1.tm = putD s.tm o.dst v := by
  unfold step1 at h
  split at h
  · cases h
  · rcases stepR_tm h s.tm with ⟨_, v, hv, _⟩ | ⟨hx, _⟩
    · exact ⟨v, hv⟩
    · exact absurd rfl hx

/-- What an operation of the evaluator's run does to the temporaries. -/
theorem Dz.put (Z : Dz P tab n0 call wr ops os N f bB bE) {i : Nat} (hi : i < N) {o : Op1} (ho : os[i]? = some o) : ∃ v, (f (i + 1)).s.tm = putD (f i).s.tm o.dst v := by
  rcases Z.cases hi ho with ⟨_, _, h⟩ | ⟨_, _, _, s, hs, _, h⟩ | ⟨_, v, _, _, _, h⟩
  · exact ⟨undefV, by rw [h]⟩
  · rw [h]; exact step1_norm hs
  · exact ⟨v, by rw [h]⟩

theorem Dz.mono (Z : Dz P tab n0 call wr ops os N f bB bE) {i : Nat} (hi : i < N) : (∀ p ∈ (f i).hs, p ∈ (f (i + 1)).hs) ∧ ∀ p ∈ (f i).rd, p ∈ (f (i + 1)).rd := by
  obtain ⟨o, ho, _⟩ := Z.tr i hi
  rcases Z.cases hi ho with ⟨_, _, h⟩ | ⟨_, _, _, s, hs, _, h⟩ | ⟨_, v, _, _, _, h⟩ <;> rw [h] <;> refine ⟨fun p hp => ?_, fun p hp => ?_⟩ <;> simp_all

theorem Dz.monoN (Z : Dz P tab n0 call wr ops os N f bB bE) {i : Nat} : ∀ m, i + m ≤ N → (∀ p ∈ (f i).hs, p ∈ (f (i + m)).hs) ∧ ∀ p ∈ (f i).rd, p ∈ (f (i + m)).rd
  | 0, _ => ⟨fun _ h => h, fun _ h => h⟩
  | m + 1, hm => by
    obtain ⟨h1, h2⟩ := Z.monoN (i := i) m (by omega)
    obtain ⟨h3, h4⟩ := Z.mono (i := i + m) (show i + m < N by omega)
    exact ⟨fun p hp => h3 p (h1 p hp), fun p hp => h4 p (h2 p hp)⟩

/-- A writer's heap is remembered. -/
theorem Dz.hsMem (Z : Dz P tab n0 call wr ops os N f bB bE) {i j : Nat} (hij : i < j) (hj : j ≤ N) (hw : Wr f i) : (i, (f i).s.h) ∈ (f j).hs := by
  obtain ⟨o, ho, _⟩ := Z.tr i (by omega)
  have h1 : (i, (f i).s.h) ∈ (f (i + 1)).hs := by
    rcases Z.cases (by omega) ho with ⟨h, _⟩ | ⟨_, _, _, s, hs, _, h⟩ | ⟨h, _⟩
    · exact absurd hw h
    · rw [h]; simp
    · exact absurd hw h
  have := (Z.monoN (i := i + 1) (j - (i + 1)) (by omega)).1 _ h1
  rwa [show i + 1 + (j - (i + 1)) = j by omega] at this

theorem Dz.rdMem (Z : Dz P tab n0 call wr ops os N f bB bE) {i j : Nat} (hij : i < j) (hj : j ≤ N) {x : Nat × A × List V × V} (hx : x ∈ (f (i + 1)).rd) : x ∈ (f j).rd := by
  have := (Z.monoN (i := i + 1) (j - (i + 1)) (by omega)).2 _ hx
  rwa [show i + 1 + (j - (i + 1)) = j by omega] at this

/-- Where no writer stands the state stays. -/
theorem Dz.const (Z : Dz P tab n0 call wr ops os N f bB bE) {p : Nat} : ∀ m, p + m ≤ N → (∀ k, p ≤ k → k < p + m → ¬ Wr f k) → ∀ T, { (f p).s with tm := T } = { (f (p + m)).s with tm := T }
  | 0, _, _, T => rfl
  | m + 1, hm, hw, T => by
    rw [Z.const m (by omega) (fun k h1 h2 => hw k h1 (by omega)) T]
    obtain ⟨o, ho, _⟩ := Z.tr (p + m) (by omega)
    rcases Z.cases (by omega) ho with ⟨_, _, h⟩ | ⟨h, _⟩ | ⟨_, v, _, _, _, h⟩
    · rw [show p + (m + 1) = p + m + 1 by omega, h]
    · exact absurd h (hw (p + m) (by omega) (by omega))
    · rw [show p + (m + 1) = p + m + 1 by omega, h]

theorem Dz.constTo (Z : Dz P tab n0 call wr ops os N f bB bE) {p q : Nat} (hpq : p ≤ q) (hq : q ≤ N) (hw : ∀ k, p ≤ k → k < q → ¬ Wr f k) (T : Tm) : { (f p).s with tm := T } = { (f q).s with tm := T } := by
  have := Z.const (p := p) (q - p) (by omega) (fun k h1 h2 => hw k h1 (by omega)) T
  rwa [show p + (q - p) = q by omega] at this

theorem Dz.constH (Z : Dz P tab n0 call wr ops os N f bB bE) {p q : Nat} (hpq : p ≤ q) (hq : q ≤ N) (hw : ∀ k, p ≤ k → k < q → ¬ Wr f k) : (f p).s.h = (f q).s.h := by
  have := Z.constTo hpq hq hw .e
  have h2 := congrArg (fun s : St => s.h) this
  exact h2

theorem firstW (f : Nat → Dr) (p : Nat) : ∀ m, (∀ k, p ≤ k → k < p + m → ¬ Wr f k) ∨ ∃ k, p ≤ k ∧ k < p + m ∧ Wr f k ∧ ∀ j, p ≤ j → j < k → ¬ Wr f j
  | 0 => .inl fun k h1 h2 => by omega
  | m + 1 => by
    rcases firstW f p m with h | ⟨k, h1, h2, h3, h4⟩
    · by_cases hw : Wr f (p + m)
      · exact .inr ⟨p + m, by omega, by omega, hw, fun j h1 h2 => h j h1 h2⟩
      · refine .inl fun k h1 h2 => ?_
        by_cases e : k = p + m
        · subst e; exact hw
        · exact h k h1 (by omega)
    · exact .inr ⟨k, h1, by omega, h3, h4⟩

theorem lastW (f : Nat → Dr) (p : Nat) : ∀ m, (∀ k, p ≤ k → k < p + m → ¬ Wr f k) ∨ ∃ k, p ≤ k ∧ k < p + m ∧ Wr f k ∧ ∀ j, k < j → j < p + m → ¬ Wr f j
  | 0 => .inl fun k h1 h2 => by omega
  | m + 1 => by
    by_cases hw : Wr f (p + m)
    · exact .inr ⟨p + m, by omega, by omega, hw, fun j h1 h2 => by omega⟩
    · rcases lastW f p m with h | ⟨k, h1, h2, h3, h4⟩
      · refine .inl fun k h1 h2 => ?_
        by_cases e : k = p + m
        · subst e; exact hw
        · exact h k h1 (by omega)
      · refine .inr ⟨k, h1, by omega, h3, fun j h5 h6 => ?_⟩
        by_cases e : j = p + m
        · subst e; exact hw
        · exact h4 j h5 (by omega)

theorem putD_has (tm : Tm) (d : Option Nat) (v : V) (t : Nat) : (putD tm d v).has t = tm.has t := by
  cases d with
  | none => rfl
  | some i => simp [putD, Tm.has_put]

theorem putD_get_ne {tm : Tm} {d : Option Nat} {v : V} {t : Nat} (h : d ≠ some t) : (putD tm d v).get t = tm.get t := by
  cases d with
  | none => rfl
  | some i => exact Tm.get_put_other _ _ _ _ fun e => h (by rw [e])

theorem Dz.hasT (Z : Dz P tab n0 call wr ops os N f bB bE) : ∀ j, j ≤ N → ∀ t, (f j).s.tm.has t = (f 0).s.tm.has t
  | 0, _, t => rfl
  | j + 1, hj, t => by
    obtain ⟨o, ho, _⟩ := Z.tr j (by omega)
    obtain ⟨v, hv⟩ := Z.put (by omega) ho
    rw [hv, putD_has]; exact Z.hasT j (by omega) t

/-- The evaluator's own temporaries behind j operations. -/
theorem Dz.valT (Z : Dz P tab n0 call wr ops os N f bB bE) : ∀ j, j ≤ N → (∀ i, i < j → ∀ (o : Op1) (t : Nat), os[i]? = some o → o.dst = some t → (f j).s.tm.get t = (f (i + 1)).s.tm.get t) ∧ ∀ t, (∀ (i : Nat) (o : Op1), i < j → os[i]? = some o → o.dst ≠ some t) → (f j).s.tm.get t = (f 0).s.tm.get t
  | 0, _ => ⟨fun i hi => by omega, fun t _ => rfl⟩
  | j + 1, hj => by
    obtain ⟨h1, h2⟩ := Z.valT j (by omega)
    obtain ⟨oj, hoj, _⟩ := Z.tr j (by omega)
    obtain ⟨v, hv⟩ := Z.put (by omega) hoj
    refine ⟨fun i hi o t ho ht => ?_, fun t ht => ?_⟩
    · by_cases e : i = j
      · subst e; rfl
      · have := (Z.one i j o oj e ho hoj t ht).1
        rw [hv, putD_get_ne this]; exact h1 i (by omega) o t ho ht
    · rw [hv, putD_get_ne (ht j oj (by omega) hoj)]
      exact h2 t fun i o hi => ht i o (by omega)

/-- What an operation looks at is what it looked at in the evaluator's run. -/
theorem Dz.look (Z : Dz P tab n0 call wr ops os N f bB bE) {D : Nat → Prop} {p : Nat} {T : Tm} {g : G} (Y : Dy os N f bE D p T g) {i : Nat} (hi : i ≤ N) {o : Op1} (ho : os[i]? = some o) (hD : ¬ D i) (hb : ∀ k ∈ o.bef, D k) {t : Nat} (ht : t ∈ o.looks) :
    T.get t = (f i).s.tm.get t := by
  have hV := Z.valT i hi
  by_cases hh : T.has t = true
  · by_cases hex : ∃ (j : Nat) (oj : Op1), os[j]? = some oj ∧ oj.dst = some t
    · obtain ⟨j, oj, hoj, hdj⟩ := hex
      -- no other operation writes it
      have uniq : ∀ (j' : Nat) (oj' : Op1), os[j']? = some oj' → oj'.dst = some t → j' = j := fun j' oj' hoj' hdj' => by
        by_cases e : j' = j
        · exact e
        · exact absurd hdj ((Z.one j' j oj' oj e hoj' hoj t hdj').1)
      by_cases e : j = i
      · subst e
        rw [Y.old t fun k ok hk hok hd => hD (by rw [uniq k ok hok hd] at hk; exact hk), hV.2 t fun k ok hk hok hd => by have := uniq k ok hok hd; omega]
      · rcases (Z.one j i oj o e hoj ho t hdj).2 ht with hm | hm
        · have hlt := Z.befLt i o ho j hm
          rw [Y.val j (hb j hm) oj t hoj hdj hh, hV.1 j hlt oj t hoj hdj]
        · have hlt := Z.befLt j oj hoj i hm
          have hDj : ¬ D j := fun h => hD (Y.cl j h oj hoj i hm)
          rw [Y.old t fun k ok hk hok hd => hDj (by rw [uniq k ok hok hd] at hk; exact hk), hV.2 t fun k ok hk hok hd => by have := uniq k ok hok hd; omega]
    · have hno : ∀ (k : Nat) (ok : Op1), os[k]? = some ok → ok.dst ≠ some t := fun k ok hok hd => hex ⟨k, ok, hok, hd⟩
      rw [Y.old t fun k ok _ hok => hno k ok hok, hV.2 t fun k ok _ hok => hno k ok hok]
  · have h1 : T.has t = false := by simpa using hh
    rw [Tm.get_not_has _ _ h1, Tm.get_not_has _ _ (by rw [Z.hasT i hi, ← Y.has]; exact h1)]

theorem ev_congr {T T' : Tm} {o : Op1} (h : ∀ t ∈ o.looks, T.get t = T'.get t) : o.args.map (O.ev T) = o.args.map (O.ev T') := by
  refine List.map_congr_left fun x hx => ?_
  cases x with
  | t i =>
    refine h i ?_
    unfold Op1.looks
    refine List.mem_append_left _ (List.mem_flatMap.2 ⟨.t i, hx, by simp [O.tmps]⟩)
  | v x => rfl

theorem wanted_congr {T T' : Tm} {o : Op1} (h : ∀ t ∈ o.looks, T.get t = T'.get t) : wanted o.grd T = wanted o.grd T' := by
  unfold wanted
  cases hg : o.grd with
  | none => rfl
  | some p =>
    obtain ⟨t, w⟩ := p
    simp only
    rw [h t (by unfold Op1.looks; rw [hg]; simp)]

theorem TR.congr {g : G} {tok : Toks} {T T' : Tm} {tmps : Array Value} (h1 : ∀ t, T'.has t = T.has t) (h2 : ∀ t, T'.has t = true → T'.get t = T.get t) (h : TR P g tok T tmps) : TR P g tok T' tmps := fun i hi => by
  obtain ⟨c, hc, hv⟩ := h i (by rw [← h1]; exact hi)
  exact ⟨c, hc, by rw [h2 i hi]; exact hv⟩

/-- The operation done is done. -/
theorem Dy.next (Z : Dz P tab n0 call wr ops os N f bB bE) {D : Nat → Prop} {p p' : Nat} {T : Tm} {g g' : G} (Y : Dy os N f bE D p T g) {i : Nat} (hi : i < N) {o : Op1} (ho : os[i]? = some o) (hD : ¬ D i) (hb : ∀ k ∈ o.bef, D k)
    {v : V} (hv : (f (i + 1)).s.tm = putD (f i).s.tm o.dst v) (hp' : p' ≤ N) (hw : ∀ k, k < N → Wr f k → ((k = i ∨ D k) ↔ k < p')) (hph : ∀ (j : Nat) (oj : Op1) bb ty z, ¬ (j = i ∨ D j) → os[j]? = some oj → oj.op = .mat bb ty z → g'.own (g'.phi bb) ≠ .blk bb) (hbl : bE ≤ (f p').s.h.blk.length) :
    Dy os N f bE (fun k => k = i ∨ D k) p' (putD T o.dst v) g' where
  sub := fun k hk => hk.elim (fun e => e ▸ hi) (Y.sub k)
  cl := fun k hk ok hok j hj => by
    rcases hk with rfl | hk
    · rw [ho] at hok; cases hok; exact .inr (hb j hj)
    · exact .inr (Y.cl k hk ok hok j hj)
  pN := hp'
  wrs := hw
  has := fun t => by rw [putD_has]; exact Y.has t
  val := fun k hk ok t hok hd hh => by
    rw [putD_has] at hh
    rcases hk with rfl | hk
    · rw [ho] at hok; cases hok
      rw [hv, hd]
      simp only [putD]
      rw [Tm.get_put_same _ _ _ hh, Tm.get_put_same _ _ _ (by rw [Z.hasT k (by omega), ← Y.has]; exact hh)]
    · have hne : k ≠ i := fun e => hD (e ▸ hk)
      rw [putD_get_ne ((Z.one k i ok o hne hok ho t hd).1)]
      exact Y.val k hk ok t hok hd hh
  old := fun t ht => by
    rw [putD_get_ne (ht i o (.inl rfl) ho)]
    exact Y.old t fun k ok hk => ht k ok (.inr hk)
  ph := hph
  bl := hbl

end

end Go.Sim

/- A region that draws its order: one operation, all of them. Conditions: none. -/
set_option linter.unusedSimpArgs false
set_option linter.unusedVariables false
namespace Go.Sim

section
variable {P : Program} {tab : Tab} {n0 : Nat} {g0 : G} {h0 : H} {cs0 : List Frame} {b : Frame} {call : Caller} {wr : Nat → Bool}
variable {ops : Array Oper} {os : List Op1} {N : Nat} {f : Nat → Dr} {bB bE : Nat}

/-- An operation that leaves the memory as it is. -/
theorem quiet_ok (hcall : CallOK P tab call) {g : G} {s : St} {a : Act} {cs : List Frame} {w : World} (S : SR P tab n0 g0 h0 cs0 b g s a cs w) {i : Nat} {rest : List Nat} {k : List Item} {o1 : Op1}
    (hB : h0.blk.length ≤ bB) (hr : DrR P tab ops bB bE i o1) (hwn : wanted o1.grd s.tm = some true) {v : V} (hq : quiet1 call n0 o1.op (o1.args.map (O.ev s.tm)) s.h = some v) (hph : ∀ bb ty z, o1.op = .mat bb ty z → g.own (g.phi bb) ≠ .blk bb) :
    ∃ g' a' cs' w', SR P tab n0 g0 h0 cs0 b g' { s with tm := putD s.tm o1.dst v } a' cs' w' ∧ Ext g s.h.tok g' s.h.tok ∧
      (∀ b', b' < s.h.blk.length → g'.own (g'.phi b') = .blk b' → g.own (g.phi b') = .blk b' ∨ ∃ ty z, o1.op = .mat b' ty z) ∧
      Steps P (lone (b.atR a (.inRegion ops (i :: rest) :: k)) cs w) (lone (b.atR a' (.inRegion ops rest :: k)) cs' w') := by
  obtain ⟨o, ho, hd, hg, hop⟩ := hr
  have hw := wanted_ok S.tm hg hwn
  -- a step of the evaluator's that leaves the heap
  have step : ∀ (rs : Rs) (h1 h2 : H), opA P tab o.op = some (o1.op, o1.args) → ex n0 o1.op (o1.args.map (O.ev s.tm)) s.h = some (rs, h1) → stepR call n0 o1 s h1 rs = some (.norm, { s with tm := putD s.tm o1.dst v, h := h2 }) →
      ((∀ (l : Nat) (p' : Lp), h2.lps[l]? = some p' → ∃ p : Lp, s.h.lps[l]? = some p ∧ p'.core = p.core) → h2 = s.h) →
      ∃ g' a' cs' w', SR P tab n0 g0 h0 cs0 b g' { s with tm := putD s.tm o1.dst v } a' cs' w' ∧ Ext g s.h.tok g' s.h.tok ∧
        (∀ b', b' < s.h.blk.length → g'.own (g'.phi b') = .blk b' → g.own (g.phi b') = .blk b' ∨ ∃ ty z, o1.op = .mat b' ty z) ∧
        Steps P (lone (b.atR a (.inRegion ops (i :: rest) :: k)) cs w) (lone (b.atR a' (.inRegion ops rest :: k)) cs' w') := by
    intro rs h1 h2 hc he hs hsame
    obtain ⟨g', a', cs', w', S', e', K, st⟩ := step_ok2 hcall S (rest := rest) (k := k) ho hw hc hd he hs
    have h2e : h2 = s.h := hsame K.lps
    subst h2e
    exact ⟨g', a', cs', w', S', e', fun b' hb' ho' => .inl (K.back b' hb' ho'), st⟩
  unfold quiet1 at hq
  split at hq
  · cases hq
  · cases hq
  · cases hq
  · cases hq
  · cases hq
  · cases hq
  · -- a new variable
    rename_i bb ty z hm
    rcases hop with ⟨hc, hno⟩ | ⟨bb', ty', z', hm', hb1, hb2, hal, hz⟩ | ⟨hdf, _⟩
    · exact absurd hm (hno _ _ _)
    · rw [hm] at hm'
      simp only [A.mat.injEq] at hm'
      obtain ⟨rfl, rfl, rfl⟩ := hm'
      split at hq
      · rename_i c hcb
        split at hq
        · rename_i hsame
          simp only [Option.some.injEq] at hq
          subst hq
          simp only [Bool.and_eq_true] at hsame
          obtain ⟨⟨hty, hz1⟩, _⟩ := hsame
          have hz1 := V.beqL_eq _ _ hz1
          have hty : c.1 = ty := by simpa using hty
          have hcb : s.h.blk[bb]? = some (ty, z'.asCells) := by rw [hcb]; congr 1; exact Prod.ext hty hz1
          obtain ⟨cz, h2, h3, _⟩ := zero_cells (g := g) (tok := s.h.tok) hz w
          have hno := hph bb ty _ hm
          have R1 := S.r.real hcb hno h3
          have e1 : Ext g s.h.tok (g.real bb w.heap.size) s.h.tok := Ext.real S.r hno
          have hgo := goes_op (P := P) (b := b) (k := k) (cs := cs) (w := w) (rest := rest) ho hw
          rw [Oper.semAt_eq _ _ _ fun c hc' => by rw [hal] at hc'; cases hc'] at hgo
          have hex : execOp a.eval o = liftV (Instr.alloc ty true (.tuple #[])) := by simp only [execOp, hal]; rfl
          have hrun : (liftV (Instr.alloc ty true (.tuple #[]))).run P w = .ok (.value (.pointer (some ⟨w.heap.size, 0, none⟩))) (w.alloc (.cells cz.cells ty)) := by
            refine liftV_ok ?_
            simp [Instr.alloc, h2, newVar, newRow]
          rw [hex, hrun] at hgo
          have hfin : (b.atR a (.inRegion ops (i :: rest) :: k)).finish (.pointer (some ⟨w.heap.size, 0, none⟩)) = b.atR (a.put o1.dst (.pointer (some ⟨w.heap.size, 0, none⟩))) (.inRegion ops rest :: k) := by
            rw [Frame.finish_atR, ho, hd]; rfl
          have R1' : R P tab (g.real bb w.heap.size) s.h (w.alloc (.cells cz.cells ty)) := by simpa using R1
          refine ⟨g.real bb w.heap.size, a.put o1.dst (.pointer (some ⟨w.heap.size, 0, none⟩)), cs, w.alloc (.cells cz.cells ty), ⟨R1', S.tb.mono e1, TR.putD (S.tm.mono e1) _ ?_, ?_, ?_, S.hn, S.rc.mono e1, S.rnd⟩, e1, fun b' hb' ho' => ?_, .one (by rw [← hfin]; exact hgo)⟩
          · simp only [VR, G.real, upd_same]; exact ⟨trivial, trivial⟩
          · rw [put_defers]; exact S.df.mono e1
          · exact S.keep.thenReal S.r (by omega) hno
          · by_cases e : b' = bb
            · subst e; exact .inr ⟨ty, _, hm⟩
            · left
              simp only [G.real, upd_other _ _ e] at ho'
              by_cases hB' : g.phi b' = w.heap.size
              · rw [hB', upd_same] at ho'; cases ho'; exact absurd rfl e
              · rwa [upd_other _ _ hB'] at ho'
        · cases hq
      · cases hq
    · rw [hm] at hdf; cases hdf
  · rename_i n1 n2 n3 n4 n5 n6 n7
    rcases hop with ⟨hc, hno⟩ | ⟨bb', ty', z', hm', _⟩ | ⟨hdf, hargs⟩
    · split at hq
      · rename_i v' h' he
        simp only [Option.some.injEq] at hq
        subst hq
        have hh := ex_val_same he (fun ty z e => n1 ty z e) (fun ty n e => n2 ty n e) (fun a b c d e => n3 a b c d e) (fun a b c e => n5 a b c e)
        exact step _ h' h' hc he rfl fun _ => hh
      · rename_i f' as' h'' he
        have hh : h'' = s.h := by
          obtain ⟨_, _, _, e⟩ := ex_ok S.r S.tb S.tm S.hn hc he
          exact e
        split at hq
        · rename_i v' h' rc' hcl
          split at hq
          · rename_i hsame
            simp only [Option.some.injEq] at hq
            subst hq
            refine step _ h'' h' hc he ?_ fun hk => same_eq hsame hk
            rw [hh]
            simp only [stepR, hcl]
            simp
          · cases hq
        · cases hq
      · cases hq
    · exact absurd hm' (n7 _ _ _)
    · rw [hdf, hargs] at hq
      simp [ex, exDfr] at hq

theorem Dy.ph' {D : Nat → Prop} {p : Nat} {T : Tm} {g : G} (Y : Dy os N f bE D p T g) {o : Op1} {i : Nat} (ho : os[i]? = some o) (hD : ¬ D i) : ∀ bb ty z, o.op = .mat bb ty z → g.own (g.phi bb) ≠ .blk bb := fun bb ty z hm => Y.ph i o bb ty z hD ho hm

theorem draw_step (hcall : CallOK P tab call) (hB : h0.blk.length ≤ bB) (Z : Dz P tab n0 call wr ops os N f bB bE) {D : Nat → Prop} {p : Nat} {T : Tm} {g : G} (Y : Dy os N f bE D p T g) {a : Act} {cs : List Frame} {w : World}
    (S : SR P tab n0 g0 h0 cs0 b g { (f p).s with tm := T } a cs w) {i : Nat} (hi : i < N) {o : Op1} (ho : os[i]? = some o) (hD : ¬ D i) (hb : ∀ k ∈ o.bef, D k) {rest : List Nat} {k : List Item} :
    ∃ g' a' cs' w' p' T', SR P tab n0 g0 h0 cs0 b g' { (f p').s with tm := T' } a' cs' w' ∧ Dy os N f bE (fun k => k = i ∨ D k) p' T' g' ∧ Ext g (f p).s.h.tok g' (f p').s.h.tok ∧
      Steps P (lone (b.atR a (.inRegion ops (i :: rest) :: k)) cs w) (lone (b.atR a' (.inRegion ops rest :: k)) cs' w') := by
  have hlook := fun t (ht : t ∈ o.looks) => Z.look Y (Nat.le_of_lt hi) ho hD hb ht
  have hev := ev_congr hlook
  have hwt := wanted_congr hlook
  have hrel := Z.rel i o ho
  have hDp : ∀ k, k < N → Wr f k → (D k ↔ k < p) := Y.wrs
  rcases Z.cases hi ho with ⟨hnw, hw, hf⟩ | ⟨hwr, hw, hhs, s1, hs1, hrd, hf⟩ | ⟨hnw, v, hw, hq, hhs, hf⟩
  · -- passed by
    obtain ⟨oc, hoc, hd, hg, hop⟩ := hrel
    rw [← hwt] at hw
    have hw' := wanted_ok S.tm hg hw
    have hstep := stepR_op_skip (P := P) (b := b) (a := a) (k := k) (cs := cs) (w := w) (ops := ops) (i := i) (rest := rest) (by simp [hoc, hw'])
    simp only [hoc, Option.bind_some] at hstep
    rw [← hd] at hstep
    refine ⟨g, a.put o.dst undef, cs, w, p, putD T o.dst undefV, ⟨S.r, S.tb, TR.putD S.tm _ VR.undef, by rw [put_defers]; exact S.df, S.keep, S.hn, S.rc, S.rnd⟩, ?_, Ext.refl _ _, .one hstep⟩
    refine Y.next Z hi ho hD hb (v := undefV) (by rw [hf]) Y.pN (fun k hk hkw => ?_) (fun j oj bb ty z hj hoj hm => Y.ph j oj bb ty z (fun h => hj (.inr h)) hoj hm) Y.bl
    have hne : k ≠ i := fun e => hnw (e ▸ hkw)
    simp [hne, hDp k hk hkw]
  · -- a writer
    have hpi : p ≤ i := by
      rcases Nat.lt_or_ge i p with h | h
      · exact absurd ((hDp i hi hwr).2 h) hD
      · exact h
    have hnone : ∀ k, p ≤ k → k < i → ¬ Wr f k := fun k h1 h2 hkw => by
      have := (hDp k (by omega) hkw).1 (hb k (hhs _ (Z.hsMem h2 (Nat.le_of_lt hi) hkw)))
      omega
    have hst := Z.constTo hpi (Nat.le_of_lt hi) hnone T
    have hst : ({ (f p).s with tm := T } : St) = { (f i).s with tm := T } := hst
    rw [hst] at S
    have hhp : (f p).s.h = (f i).s.h := Z.constH hpi (Nat.le_of_lt hi) hnone
    unfold step1 at hs1
    split at hs1
    · cases hs1
    · rename_i q he
      obtain ⟨rs, h1⟩ := q
      simp only at hs1
      obtain ⟨oc, hoc, hd, hg, hop⟩ := hrel
      rw [← hwt] at hw
      have hw' := wanted_ok S.tm hg hw
      rw [← hev] at he
      have hc : opA P tab oc.op = some (o.op, o.args) := by
        rcases hop with ⟨hc, _⟩ | ⟨bb, ty, z, hm, _⟩ | ⟨hm, hargs⟩
        · exact hc
        · rw [hm] at he; simp [ex] at he
        · rw [hm, hargs] at he; simp [ex, exDfr] at he
      rcases stepR_tm hs1 T with ⟨_, v, hv, hsT⟩ | ⟨hx, _⟩
      · obtain ⟨g', a', cs', w', S', e', K, st⟩ := step_ok2 hcall S (rest := rest) (k := k) hoc hw' hc hd he hsT
        have hfs : (f (i + 1)).s = s1 := by rw [hf]
        refine ⟨g', a', cs', w', i + 1, putD T o.dst v, by rw [hfs]; exact S', ?_, ?_, st⟩
        · refine Y.next Z hi ho hD hb (v := v) (by rw [hfs]; exact hv) hi (fun k hk hkw => ?_) (fun j oj bb ty z hj hoj hm hown => ?_) ?_
          · constructor
            · rintro (rfl | h)
              · omega
              · have := (hDp k hk hkw).1 h; omega
            · intro h
              by_cases e : k = i
              · exact .inl e
              · right
                rcases Nat.lt_or_ge k p with h2 | h2
                · exact (hDp k hk hkw).2 h2
                · exact absurd hkw (hnone k h2 (by omega))
          · have hlt : bb < (f i).s.h.blk.length := by
              obtain ⟨_, _, _, _, hop'⟩ := Z.rel j oj hoj
              have := Y.bl
              rw [hhp] at this
              rcases hop' with ⟨_, hno⟩ | ⟨bb', ty', z', hm', _, hb2, _⟩ | ⟨hm', _⟩
              · exact absurd hm (hno _ _ _)
              · rw [hm] at hm'; simp only [A.mat.injEq] at hm'; omega
              · rw [hm] at hm'; cases hm'
            exact Y.ph j oj bb ty z (fun h => hj (.inr h)) hoj hm (K.back bb hlt hown)
          · rw [hfs]
            have h1 := Y.bl
            rw [hhp] at h1
            exact Nat.le_trans h1 K.len
        · rw [hfs, hhp]; exact e'
      · exact absurd rfl hx
  · -- quiet
    have hq' : quiet1 call n0 o.op (o.args.map (O.ev (f i).s.tm)) (f p).s.h = some v := by
      rcases Nat.lt_or_ge i p with hip | hpi
      · -- writers behind it have run
        rcases lastW f i (p - i) with h | ⟨k', h1, h2, h3, h4⟩
        · rw [← Z.constH (Nat.le_of_lt hip) Y.pN (fun k h1 h2 => h k h1 (by omega))]; exact hq
        · have hk' : k' < N := by have := Y.pN; omega
          have hne : i ≠ k' := fun e => hnw (e ▸ h3)
          have hDk := (hDp k' hk' h3).2 (by omega)
          obtain ⟨ok, hok, _⟩ := Z.tr k' hk'
          rw [← Z.constH (p := k' + 1) (q := p) (by omega) Y.pN (fun j hj1 hj2 => h4 j (by omega) (by omega))]
          rcases Z.cases hk' hok with ⟨hn, _⟩ | ⟨_, _, _, s1, _, hrd, hf1⟩ | ⟨hn, _⟩
          · exact absurd h3 hn
          · have hmem : (i, o.op, o.args.map (O.ev (f i).s.tm), v) ∈ (f k').rd := Z.rdMem (i := i) (j := k') (by omega) (Nat.le_of_lt hk') (by rw [hf]; simp)
            rcases hrd _ hmem with hx | hx
            · exact absurd (Y.cl k' hDk ok hok i hx) hD
            · rw [hf1]; exact hx
          · exact absurd h3 hn
      · -- writers ahead of it are to come
        rcases firstW f p (i - p) with h | ⟨k', h1, h2, h3, h4⟩
        · rw [Z.constH hpi (Nat.le_of_lt hi) (fun k h1 h2 => h k h1 (by omega))]; exact hq
        · rw [Z.constH h1 (by omega) (fun j hj1 hj2 => h4 j hj1 hj2)]
          rcases hhs _ (Z.hsMem (i := k') (j := i) (by omega) (Nat.le_of_lt hi) h3) with hx | hx
          · have := (hDp k' (by omega) h3).1 (hb k' hx); omega
          · exact hx
    rw [← hev] at hq'
    rw [← hwt] at hw
    obtain ⟨g', a', cs', w', S', e', K, st⟩ := quiet_ok hcall S (rest := rest) (k := k) hB hrel hw hq' (Y.ph' ho hD)
    refine ⟨g', a', cs', w', p, putD T o.dst v, S', ?_, e', st⟩
    refine Y.next Z hi ho hD hb (v := v) (by rw [hf]) Y.pN (fun k hk hkw => ?_) (fun j oj bb ty z hj hoj hm hown => ?_) Y.bl
    · have hne : k ≠ i := fun e => hnw (e ▸ hkw)
      simp [hne, hDp k hk hkw]
    · have hlt : bb < (f p).s.h.blk.length := by
        obtain ⟨_, _, _, _, hop'⟩ := Z.rel j oj hoj
        have := Y.bl
        rcases hop' with ⟨_, hno⟩ | ⟨bb', ty', z', hm', _, hb2, _⟩ | ⟨hm', _⟩
        · exact absurd hm (hno _ _ _)
        · rw [hm] at hm'; simp only [A.mat.injEq] at hm'; omega
        · rw [hm] at hm'; cases hm'
      rcases K bb hlt hown with h | ⟨ty', z', hm'⟩
      · exact Y.ph j oj bb ty z (fun h => hj (.inr h)) hoj hm h
      · exact Z.ne j i oj o bb ty z bb ty' z' (fun e => hj (.inl e)) hoj ho hm hm' rfl

end

end Go.Sim

/- A region that draws its order, whole. Conditions: none. -/
set_option linter.unusedSimpArgs false
set_option linter.unusedVariables false
namespace Go.Sim

section
variable {P : Program} {tab : Tab} {n0 : Nat} {g0 : G} {h0 : H} {cs0 : List Frame} {b : Frame} {call : Caller} {wr : Nat → Bool}
variable {ops : Array Oper} {os : List Op1} {N : Nat} {f : Nat → Dr} {bB bE : Nat}

/-- Each operation's wait, as the evaluator's code has it. -/
def BefOK (os : List Op1) (bef : Nat → List Nat) : Prop := ∀ (i : Nat) (o : Op1), os[i]? = some o → o.bef = bef i

theorem draw_all (hcall : CallOK P tab call) (hB : h0.blk.length ≤ bB) (Z : Dz P tab n0 call wr ops os N f bB bE) {bef : Nat → List Nat} (hbef : BefOK os bef) {k : List Item} {x : X} {d' : Dr}
    (hend : (x = .norm ∧ N = os.length ∧ f N = d') ∨ (x ≠ .norm ∧ ∃ o, os[N]? = some o ∧ draw1 call wr n0 N o (os.drop (N + 1)) (f N) = some (x, d'))) :
    ∀ (l : List Nat) (D : Nat → Prop) (p : Nat) (T : Tm) (g : G) (a : Act) (cs : List Frame) (w : World), Sched os.length bef D l → Dy os N f bE D p T g → SR P tab n0 g0 h0 cs0 b g { (f p).s with tm := T } a cs w →
      (x = .norm ∧ ∃ g' a' cs' w', SR P tab n0 g0 h0 cs0 b g' d'.s a' cs' w' ∧ Ext g (f p).s.h.tok g' d'.s.h.tok ∧ Steps P (lone (b.atR a (.inRegion ops l :: k)) cs w) (lone (b.atR a' k) cs' w')) ∨
      ∃ v T' g' a' cs' w', x = .pan v ∧ (∀ t, T'.has t = (f 0).s.tm.has t) ∧ (∀ t, (∀ (i : Nat) (o : Op1), os[i]? = some o → o.dst ≠ some t) → T'.get t = (f 0).s.tm.get t) ∧ SR P tab n0 g0 h0 cs0 b g' { d'.s with tm := T' } a' cs' w' ∧ Ext g (f p).s.h.tok g' d'.s.h.tok ∧
        Arr P g' d'.s.h.tok (lone (b.atR a (.inRegion ops l :: k)) cs w) b k cs' x a' w'
  | [], D, p, T, g, a, cs, w, hS, Y, S => by
    simp only [Sched] at hS
    rcases hend with ⟨hx, hN, hd⟩ | ⟨hx, o, ho, _⟩
    · left
      have hnone : ∀ k, p ≤ k → k < N → ¬ Wr f k := fun k h1 h2 hkw => by
        have := (Y.wrs k h2 hkw).1 (hS k (by omega)); omega
      have hst : ({ (f p).s with tm := T } : St) = { (f N).s with tm := T } := Z.constTo Y.pN (Nat.le_refl _) hnone T
      have hh := Z.constH Y.pN (Nat.le_refl _) hnone
      rw [hst] at S
      have hV := Z.valT N (Nat.le_refl _)
      have hT : TR P g (f N).s.h.tok (f N).s.tm a.tmps := by
        refine TR.congr (T := T) (fun t => by rw [Z.hasT N (Nat.le_refl _), Y.has]) (fun t ht => ?_) S.tm
        have hh : T.has t = true := by rw [Y.has, ← Z.hasT N (Nat.le_refl _)]; exact ht
        by_cases hex : ∃ (j : Nat) (oj : Op1), os[j]? = some oj ∧ oj.dst = some t
        · obtain ⟨j, oj, hoj, hdj⟩ := hex
          have hj : j < N := by have := (List.getElem?_eq_some_iff.1 hoj).1; omega
          rw [hV.1 j hj oj t hoj hdj, Y.val j (hS j (by omega)) oj t hoj hdj hh]
        · have hno : ∀ (k : Nat) (ok : Op1), os[k]? = some ok → ok.dst ≠ some t := fun k ok hok hd => hex ⟨k, ok, hok, hd⟩
          rw [hV.2 t fun k ok _ hok => hno k ok hok, Y.old t fun k ok _ hok => hno k ok hok]
      subst hd
      exact ⟨hx, g, a, cs, w, ⟨S.r, S.tb, hT, S.df, S.keep, S.hn, S.rc, S.rnd⟩, by rw [hh]; exact Ext.refl _ _, .one stepR_region_end⟩
    · have := hS N (List.getElem?_eq_some_iff.1 ho).1
      have := Y.sub N this
      omega
  | i :: l, D, p, T, g, a, cs, w, hS, Y, S => by
    obtain ⟨hi, hDi, hb, hrest⟩ := hS
    obtain ⟨o, ho⟩ : ∃ o, os[i]? = some o := ⟨os[i], List.getElem?_eq_getElem hi⟩
    have hb' : ∀ k ∈ o.bef, D k := fun k hk => hb k (by rw [← hbef i o ho]; exact hk)
    by_cases hiN : i < N
    · obtain ⟨g1, a1, cs1, w1, p1, T1, S1, Y1, e1, st⟩ := draw_step hcall hB Z Y S hiN ho hDi hb' (rest := l) (k := k)
      rcases draw_all hcall hB Z hbef hend l _ p1 T1 g1 a1 cs1 w1 hrest Y1 S1 with ⟨hx, g2, a2, cs2, w2, S2, e2, st2⟩ | ⟨v, T2, g2, a2, cs2, w2, hx, h1, h2, S2, e2, st2⟩
      · exact .inl ⟨hx, g2, a2, cs2, w2, S2, e1.trans e2, st.trans st2⟩
      · exact .inr ⟨v, T2, g2, a2, cs2, w2, hx, h1, h2, S2, e1.trans e2, st2.of_steps st⟩
    · rcases hend with ⟨hx, hN, hd⟩ | ⟨hx, oN, hoN, hdr⟩
      · omega
      · -- the operation that panics
        rcases draw1_spec hdr with ⟨_, e, _⟩ | ⟨_, _, _, _, _, e, _⟩ | ⟨v, s1, hw, hhs, hs1, hre, hxv, hd⟩ | ⟨_, _, _, _, e, _⟩
        · exact absurd e hx
        · exact absurd e hx
        · have hiN' : i = N := by
            by_cases e : i = N
            · exact e
            · exfalso
              have hm : o ∈ os.drop (N + 1) := by
                refine List.mem_of_getElem? (i := i - (N + 1)) ?_
                rw [List.getElem?_drop, show N + 1 + (i - (N + 1)) = i by omega]; exact ho
              have := Y.sub N (hb' N (hre o hm))
              omega
          subst hiN'
          rw [ho] at hoN; cases hoN
          right
          have hlook := fun t (ht : t ∈ o.looks) => Z.look Y (Nat.le_refl _) ho hDi hb' ht
          have hev := ev_congr hlook
          have hwt := wanted_congr hlook
          have hnone : ∀ k, p ≤ k → k < i → ¬ Wr f k := fun k h1 h2 hkw => by
            have := (Y.wrs k h2 hkw).1 (hb' k (hhs _ (Z.hsMem h2 (Nat.le_refl _) hkw)))
            omega
          have hst : ({ (f p).s with tm := T } : St) = { (f i).s with tm := T } := Z.constTo Y.pN (Nat.le_refl _) hnone T
          have hhp := Z.constH Y.pN (Nat.le_refl _) hnone
          rw [hst] at S
          unfold step1 at hs1
          split at hs1
          · cases hs1
          · rename_i q he
            obtain ⟨rs, h1⟩ := q
            simp only at hs1
            obtain ⟨oc, hoc, hd1, hg, hop⟩ := Z.rel i o ho
            rw [← hwt] at hw
            have hw' := wanted_ok S.tm hg hw
            rw [← hev] at he
            have hc : opA P tab oc.op = some (o.op, o.args) := by
              rcases hop with ⟨hc, _⟩ | ⟨bb, ty, z, hm, _⟩ | ⟨hm, hargs⟩
              · exact hc
              · rw [hm] at he; simp [ex] at he
              · rw [hm, hargs] at he; simp [ex, exDfr] at he
            rcases stepR_tm hs1 T with ⟨hn, _⟩ | ⟨_, htm, hsT⟩
            · cases hn
            · obtain ⟨g', a', cs', w', S', e', K, st⟩ := step_ok2 hcall S (rest := l) (k := k) hoc hw' hc hd1 he hsT
              have hds : d'.s = s1 := by rw [hd]
              refine ⟨v, T, g', a', cs', w', hxv, Y.has, fun t ht => Y.old t fun k ok _ hok => ht k ok hok, by rw [hds]; exact S', by rw [hds, hhp]; exact e', ?_⟩
              rw [hds, hxv]
              exact st
        · exact absurd e hx

theorem junkAll_spec : ∀ (os : List Op1) (tm : Tm), (∀ t, (junkAll os tm).has t = tm.has t) ∧ (∀ t, (∃ o ∈ os, o.dst = some t) → (junkAll os tm).get t = .junk) ∧ ∀ t, (∀ o ∈ os, o.dst ≠ some t) → (junkAll os tm).get t = tm.get t
  | [], tm => ⟨fun _ => rfl, fun t ⟨o, ho, _⟩ => by simp at ho, fun _ _ => rfl⟩
  | o :: os, tm => by
    obtain ⟨h1, h2, h3⟩ := junkAll_spec os (putD tm o.dst .junk)
    have e : junkAll (o :: os) tm = junkAll os (putD tm o.dst .junk) := rfl
    rw [e]
    refine ⟨fun t => by rw [h1, putD_has], fun t ⟨o', ho', hd⟩ => ?_, fun t ht => ?_⟩
    · by_cases hex : ∃ o ∈ os, o.dst = some t
      · exact h2 t hex
      · have hno : ∀ o ∈ os, o.dst ≠ some t := fun o1 h1 h2 => hex ⟨o1, h1, h2⟩
        rw [h3 t hno]
        have : o.dst = some t := by
          rcases List.mem_cons.1 ho' with rfl | h
          · exact hd
          · exact absurd hd (hno o' h)
        rw [this]
        by_cases hh : tm.has t = true
        · exact Tm.get_put_same _ _ _ hh
        · exact Tm.get_not_has _ _ (by rw [putD_has]; simpa using hh)
    · rw [h3 t fun o1 h1 => ht o1 (by simp [h1]), putD_get_ne (ht o (by simp))]

theorem opA_new {op : Op} {ty : Nat} {z : List V} {xs : List O} (hc : opA P tab op = some (.new ty z, xs)) : ∃ t z', op = .alloc t ∧ zeroOf P t = some z' ∧ ty = t ∧ z = z'.asCells := by
  have one : ∀ {A1 : A} {ys : List Operand}, (operands tab ys).map (A1, ·) = some (A.new ty z, xs) → A1 = .new ty z := fun h => (one_some h).1
  cases op
  case alloc t =>
    simp only [opA, Option.bind_eq_some_iff] at hc
    obtain ⟨z', hz, hc⟩ := hc
    have := one hc
    simp only [A.new.injEq] at this
    exact ⟨t, z', rfl, hz, this.1.symm, this.2.symm⟩
  all_goals exfalso
  all_goals try simp only [opA, reduceCtorEq] at hc
  all_goals try (cases one hc; done)
  all_goals repeat' (first | (simp only [Option.bind_eq_some_iff] at hc) | (obtain ⟨_, _, hc⟩ := hc) | split at hc)
  all_goals try (cases hc; done)
  all_goals try contradiction
  all_goals try (cases one hc; done)
  all_goals (rename_i h1; have e := one hc; subst e; revert h1)
  all_goals (first | unfold convA | unfold builtinA)
  all_goals intro h1
  all_goals repeat' (first | (simp only [Option.bind_eq_some_iff] at h1) | (obtain ⟨_, _, h1⟩ := h1) | split at h1)
  all_goals try (cases h1; done)

theorem draw_ok {E : Env} (hmix : P.follows .mixedOrders = true) (hcall : CallOK P tab call) (id : Nat) (ops : Array Oper) (os : List Op1) (hos : allSome ((ops.toList.zip (befs ops.toList)).map fun (o, b) => oper P tab ops.toList o b) = some os) (hdo : drawOk os = true) (haf : aftOk ops.toList = true) :
    CodeOK P tab n0 g0 h0 cs0 b (drawOps call E.wr n0 os) (.region id ops true) := by
  intro k g s s' a cs w x S hs
  unfold drawOps at hs
  obtain ⟨hlen, hget⟩ := allSome_map _ _ _ hos
  have hblen := befs_length ops.toList
  have hzl : (ops.toList.zip (befs ops.toList)).length = ops.size := by rw [List.length_zip, hblen]; simp
  rw [hzl] at hlen
  -- the compiled operations
  have hR : ∀ (i : Nat) (o1 : Op1), os[i]? = some o1 → OperR P tab ops i o1 ∧ o1.bef = befAt ops i := fun i o1 ho1 => by
    have hi : i < ops.size := by have := (List.getElem?_eq_some_iff.1 ho1).1; omega
    have ho : ops[i]? = some ops[i] := Array.getElem?_eq_getElem hi
    have hbl : (befs ops.toList)[i]? = some (befAt ops i) := by
      unfold befAt
      rw [List.getD_eq_getElem?_getD, List.getElem?_eq_getElem (by rw [hblen]; simpa using hi)]; simp
    obtain ⟨y, hy, hy'⟩ := hget i (ops[i], befAt ops i) (by
      rw [List.getElem?_zip_eq_some]
      exact ⟨by simpa using ho, hbl⟩)
    rw [ho1] at hy; cases hy
    refine ⟨oper_R ho hy', ?_⟩
    simp only [oper, Option.bind_eq_some_iff] at hy'
    obtain ⟨⟨A, xs⟩, _, hc⟩ := hy'
    simp only at hc
    split at hc
    · simp only [Option.some.injEq] at hc; rw [← hc]
    · simp only [Option.map_eq_some_iff] at hc
      obtain ⟨t, _, hc⟩ := hc; rw [← hc]
  have hone : ∀ (i j : Nat) (oi oj : Op1), i ≠ j → os[i]? = some oi → os[j]? = some oj → ∀ t, oi.dst = some t → oj.dst ≠ some t ∧ (t ∈ oj.looks → i ∈ oj.bef ∨ j ∈ oi.bef) := by
    intro i j oi oj hij hoi hoj t ht
    have hi := (List.getElem?_eq_some_iff.1 hoi).1
    have hj := (List.getElem?_eq_some_iff.1 hoj).1
    simp only [drawOk, List.all_eq_true, List.mem_range] at hdo
    have h1 := hdo i hi j hj
    simp only [hoi, hoj, ht, Bool.or_eq_true, beq_iff_eq, hij, false_or, Bool.and_eq_true, bne_iff_ne, ne_eq, Bool.not_eq_true', List.contains_eq_mem, decide_eq_false_iff_not, decide_eq_true_eq] at h1
    refine ⟨h1.1, fun hl => ?_⟩
    rcases h1.2 with (h | h) | h
    · exact absurd hl h
    · exact .inr h
    · exact .inl h
  obtain ⟨q1, q2, q3, q4⟩ := hoist_spec os s.h.blk.length
  generalize hh : hoist s.h.blk.length os = hp at hs q1 q2 q3 q4
  obtain ⟨zs, os'⟩ := hp
  simp only at hs q1 q2 q3 q4
  -- the trace
  have run : ∀ (x0 : X) (d' : Dr), drawRun call E.wr n0 os' 0 { s := { s with h := { s.h with blk := s.h.blk ++ zs } } } = some (x0, d') →
      (x0 = .norm ∧ ∃ g' a' cs' w', SR P tab n0 g0 h0 cs0 b g' d'.s a' cs' w' ∧ Ext g s.h.tok g' d'.s.h.tok ∧ Steps P (lone (b.atR a (.code (.region id ops true) :: k)) cs w) (lone (b.atR a' k) cs' w')) ∨
      ∃ v T' g' a' cs' w', x0 = .pan v ∧ (∀ t, T'.has t = s.tm.has t) ∧ (∀ t, (∀ (i : Nat) (o : Op1), os'[i]? = some o → o.dst ≠ some t) → T'.get t = s.tm.get t) ∧ SR P tab n0 g0 h0 cs0 b g' { d'.s with tm := T' } a' cs' w' ∧ Ext g s.h.tok g' d'.s.h.tok ∧
        Arr P g' d'.s.h.tok (lone (b.atR a (.code (.region id ops true) :: k)) cs w) b k cs' x0 a' w' := by
    intro x0 d' hd
    obtain ⟨N, f, hf0, hN, htr, hend⟩ := drawRun_trace _ _ _ _ _ hd
    simp only [Nat.zero_add] at htr hend
    have Z : Dz P tab n0 call E.wr ops os' N f s.h.blk.length (s.h.blk.length + zs.length) := by
      have rel0 : ∀ (i : Nat) (o' : Op1), os'[i]? = some o' → DrR P tab ops s.h.blk.length (s.h.blk.length + zs.length) i o' := fun i o' ho' => by
        obtain ⟨o1, ho1, e1, e2, e3, e4⟩ := q4 i o' ho'
        obtain ⟨⟨o, hoo, hc, hd, hg⟩, _⟩ := hR i o1 ho1
        refine ⟨o, hoo, by rw [e1]; exact hd, by rw [e2]; exact hg, ?_⟩
        rcases e4 with ⟨h1, h2, h3⟩ | ⟨bb, ty, z, h1, h2, h3⟩ | h
        · exact .inl ⟨by rw [h1, h2]; exact hc, h3⟩
        · refine .inr (.inl ?_)
          rw [h1] at hc
          obtain ⟨b1, b2⟩ := q2 i o' bb ty z ho' h2
          obtain ⟨t, z', hop, hz, rfl, rfl⟩ := opA_new hc
          exact ⟨bb, _, z', h2, b1, b2, hop, hz⟩
        · exact .inr (.inr h)
      refine ⟨by rw [q1, hlen], fun i o' ho' k hk => ?_, fun i j oi oj hij hoi hoj t ht => ?_, rel0, fun i j oi oj bi ti zi bj tj zj hij hoi hoj hmi hmj => ?_, hN, htr⟩
      · obtain ⟨o1, ho1, _, _, e3, _⟩ := q4 i o' ho'
        rw [e3, (hR i o1 ho1).2] at hk
        obtain ⟨⟨o, hoo, _⟩, _⟩ := hR i o1 ho1
        exact befAt_lt haf i hoo hk
      · obtain ⟨o1, ho1, e1, _, e3, _⟩ := q4 i oi hoi
        obtain ⟨o2, ho2, e1', e2', e3', e4'⟩ := q4 j oj hoj
        obtain ⟨h1, h2⟩ := hone i j o1 o2 hij ho1 ho2 t (by rw [← e1]; exact ht)
        refine ⟨by rw [e1']; exact h1, fun hl => ?_⟩
        rw [e3, e3']
        refine h2 ?_
        unfold Op1.looks at hl ⊢
        rw [e2'] at hl
        rcases List.mem_append.1 hl with hl | hl
        · rcases e4' with ⟨_, h, _⟩ | ⟨_, _, _, _, _, h⟩ | ⟨_, h⟩
          · rw [h] at hl; exact List.mem_append_left _ hl
          · rw [h] at hl; simp at hl
          · rw [h] at hl; simp at hl
        · exact List.mem_append_right _ hl
      · rcases Nat.lt_or_gt_of_ne hij with h | h
        · have := q3 i j oi oj bi ti zi bj tj zj h hoi hoj hmi hmj; omega
        · have := q3 j i oj oi bj tj zj bi ti zi h hoj hoi hmj hmi; omega
    have hbef : BefOK os' (befAt ops) := fun i o' ho' => by
      obtain ⟨o1, ho1, _, _, e3, _⟩ := q4 i o' ho'
      rw [e3]; exact (hR i o1 ho1).2
    have hsch := schedule_sched haf hmix (w.tape w.drawn (.order b.fn id))
    rw [← Z.len] at hsch
    have hs0 : (f 0).s = { s with h := { s.h with blk := s.h.blk ++ zs } } := by rw [hf0]
    have Y : Dy os' N f (s.h.blk.length + zs.length) (fun _ => False) 0 s.tm g := by
      refine ⟨fun _ h => h.elim, fun _ h => h.elim, Nat.zero_le _, fun k hk hw => by simp, fun t => by rw [hs0], fun _ h => h.elim, fun t _ => by rw [hs0], fun i o bb ty z _ ho hm hown => ?_, by rw [hs0]; simp⟩
      have h1 := (q2 i o bb ty z ho hm).1
      have h2 := (S.r.oBlk _ _ hown).1
      omega
    have S1 : SR P tab n0 g0 h0 cs0 b g { (f 0).s with tm := s.tm } a cs { w with drawn := w.drawn + 1 } := by
      rw [hs0]
      exact ⟨(S.r.phantom zs).heap rfl, S.tb, S.tm, S.df, by simpa using S.keep.trans (Keeps.phantom n0 S.hn zs), by have := S.hn; simp; omega, S.rc, S.rnd⟩
    have hst := stepR_region_draw (P := P) (b := b) (a := a) (k := k) (cs := cs) (w := w) (ops := ops) (id := id)
    have hB : h0.blk.length ≤ s.h.blk.length := S.keep.len
    have htok : (f 0).s.h.tok = s.h.tok := by rw [hs0]
    rcases draw_all hcall hB Z hbef (k := k) hend _ _ 0 s.tm g a cs _ hsch Y S1 with ⟨hx, g2, a2, cs2, w2, S2, e2, st2⟩ | ⟨v, T2, g2, a2, cs2, w2, hx, h1, h2, S2, e2, st2⟩
    · rw [htok] at e2
      exact .inl ⟨hx, g2, a2, cs2, w2, S2, e2, .head hst st2⟩
    · rw [htok] at e2
      refine .inr ⟨v, T2, g2, a2, cs2, w2, hx, fun t => by rw [h1, hs0], fun t ht => by rw [h2 t ht, hs0], S2, e2, st2.of_steps (.one hst)⟩
  split at hs
  · rename_i d' hd
    simp only [Option.some.injEq, Prod.mk.injEq] at hs
    obtain ⟨rfl, rfl⟩ := hs
    rcases run _ _ hd with ⟨_, g', a', cs', w', S', e', st⟩ | ⟨v, _, _, _, _, _, hx, _⟩
    · exact ⟨g', a', cs', w', S', e', st⟩
    · cases hx
  · rename_i v d' hd
    simp only [Option.some.injEq, Prod.mk.injEq] at hs
    obtain ⟨rfl, rfl⟩ := hs
    rcases run _ _ hd with ⟨hx, _⟩ | ⟨v', T', g', a', cs', w', hx, h1, h2, S', e', st⟩
    · cases hx
    · obtain ⟨j1, j2, j3⟩ := junkAll_spec os s.tm
      refine ⟨g', a', cs', w', ⟨S'.r, S'.tb, ?_, S'.df, S'.keep, S'.hn, S'.rc, S'.rnd⟩, e', st⟩
      intro t ht
      have ht' : T'.has t = true := by rw [h1, ← j1]; exact ht
      obtain ⟨c, hc, hv⟩ := S'.tm t ht'
      refine ⟨c, hc, ?_⟩
      by_cases hex : ∃ o ∈ os, o.dst = some t
      · rw [show ({ d'.s with tm := junkAll os s.tm } : St).tm.get t = .junk from j2 t hex]; simp only [VR]
      · have hno : ∀ o ∈ os, o.dst ≠ some t := fun o1 h1 h2 => hex ⟨o1, h1, h2⟩
        have e1 : ({ d'.s with tm := junkAll os s.tm } : St).tm.get t = s.tm.get t := j3 t hno
        have e2 : T'.get t = s.tm.get t := h2 t fun i o ho hd => by
          obtain ⟨o1, ho1, e1, _⟩ := q4 i o ho
          exact hno o1 (List.mem_of_getElem? ho1) (by rw [← e1]; exact hd)
        rw [e1, ← e2]; exact hv
  · cases hs

end

end Go.Sim

/- The evaluator's calls are the machine's. Conditions: the environment's functions are the program's, and its oracle tells true. -/
set_option linter.unusedSimpArgs false
set_option linter.unusedVariables false
namespace Go.Sim

section
variable {P : Program} {tab : Tab} {E : Env}

theorem parts_ok {call : Caller} {fuel : Nat} (hmix : P.follows .mixedOrders = true) (hcall : CallOK P tab call) : ∀ n0 g0 h0 cs0 (b : Frame), G.good g0 → (P.funcs[b.fn]?).isSome = true → PartsOK P tab n0 g0 h0 cs0 b E call fuel :=
  fun n0 g0 h0 cs0 b hg hf => ⟨fun id ops os h1 h2 h3 => draw_ok hmix hcall id ops os h1 h2 h3, fun f ps as body o ho => range_ok hcall hg hf f ps as body o ho⟩

theorem eval_ok (hE : EnvOK P tab E) : ∀ n, CallOK P tab (eval E n) ∧ CallDOK P tab (eval E n)
  | 0 => ⟨fun f vs h out hs => by simp [eval] at hs, fun f vs rc h u v hs => by simp [eval] at hs⟩
  | n + 1 => by
    obtain ⟨hc, hd⟩ := eval_ok hE n
    constructor
    · intro f vs h out hs g w d r tb hdr fr cs m hm hgo
      obtain ⟨cargs, hl, hargs, hk⟩ := hdr
      cases f with
      | fn id caps =>
        obtain ⟨cc, hcl, ht⟩ := hk
        simp only [eval] at hs
        rw [ht, hargs] at hgo
        refine callFn_ok hE hc hd (parts_ok hE.mixed hc) hs r tb (hl.append hcl) hm ?_
        simpa [invoke] using hgo
      | yld l =>
        obtain ⟨ht, ho⟩ := hk
        simp only [eval] at hs
        rw [ht, hargs] at hgo
        exact callYld_ok hc (parts_ok hE.mixed hc) hs r tb hl hm (by simpa [invoke] using hgo)
      | _ => exact hk.elim
    · intro f vs rc h u v hs hu g w d r tb hdr c cs hrc
      obtain ⟨cargs, hl, hargs, hk⟩ := hdr
      cases f with
      | fn id caps =>
        obtain ⟨cc, hcl, ht⟩ := hk
        simp only [eval] at hs
        obtain ⟨h1, g', w', h2, h3, h4⟩ := callFn_dok hE hc hd (parts_ok hE.mixed hc) hs hu r tb (hl.append hcl) (cs := cs) hrc
        refine ⟨id, _, ?_, ⟨_, _, ht⟩, g', w', h2, h3, h4⟩
        rw [ht, hargs]
        simpa [invoke] using h1
      | yld l =>
        simp only [eval] at hs
        split at hs
        · rcases hrc with ⟨e, _⟩ | ⟨_, _, e, _⟩ <;> cases e
        · cases hs
      | _ => exact hk.elim

end

end Go.Sim

/- A call from the start: what lay there never changes; what the data that are read are to the evaluator. Conditions: none. -/
set_option linter.unusedSimpArgs false
set_option linter.unusedVariables false
namespace Go.Sim

section
variable {P : Program} {tab : Tab} {w : World}

def h00 : H := { blk := [], tok := [], lps := [] }

/-- Whatever lies there is known, and stays. -/
def oldG (w : World) : G := { own := fun B => match w.heap[B]? with | some o => .old o | none => .free, phi := fun _ => 0, tk := fun _ => ⟨0, 0⟩, lp := fun _ => 0, io := ((w.os, w.output), fun _ _ => true) }

theorem oldG_own (w : World) (B : Nat) : (oldG w).own B = .free ∨ ∃ o, w.heap[B]? = some o ∧ (oldG w).own B = .old o := by
  simp only [oldG]
  cases h : w.heap[B]? with
  | none => exact .inl rfl
  | some o => exact .inr ⟨o, rfl, rfl⟩

theorem R.start (w : World) : R P tab (oldG w) h00 w where
  blk := fun b ty cs hb _ => by simp [h00] at hb
  oOld := fun B o ho => by
    rcases oldG_own w B with h | ⟨o', h1, h2⟩
    · rw [h] at ho; cases ho
    · rw [h2] at ho; cases ho; exact h1
  oBlk := fun B b ho => by rcases oldG_own w B with h | ⟨o', _, h⟩ <;> rw [h] at ho <;> cases ho
  oRow := fun B ty f t ho => by rcases oldG_own w B with h | ⟨o', _, h⟩ <;> rw [h] at ho <;> cases ho
  oLp := fun B l ho => by rcases oldG_own w B with h | ⟨o', _, h⟩ <;> rw [h] at ho <;> cases ho
  oDfr := fun B ho => by rcases oldG_own w B with h | ⟨o', _, h⟩ <;> rw [h] at ho <;> cases ho
  fresh := fun B hB => by simp only [oldG]; rw [Array.getElem?_eq_none hB]
  tok := fun t m ty hm => by simp [h00] at hm
  lps := fun l p hp => by simp [h00] at hp
  io := rfl

theorem oldG_at {a : Addr} {v : Value} (h : w.cell? a = some v) : a.spot = none ∧ (oldG w).at a.block a.off = some v := by
  obtain ⟨B, o, sp⟩ := a
  simp only [World.cell?] at h
  simp only [G.at, oldG]
  cases hb : w.heap[B]? with
  | none => rw [hb] at h; cases h
  | some x =>
    rw [hb] at h
    cases x <;> simp only at h ⊢ <;> first
      | cases h; done
      | skip
    cases sp with
    | none => exact ⟨rfl, by simpa using h⟩
    | some s => simp at h

-- ---------------------------------------------------------------- data
def litV : Lit → Option V
  | .bool b => some (.bool b)
  | .int k n => some (.int k n)
  | .string bs => some (.str (bs.map (·.toNat)))
  | _ => none

variable {H : Type}

def dcat (f : DataW H → Option (List V)) : List (DataW H) → Option (List V)
  | [] => some []
  | d :: ds => match f d, dcat f ds with
    | some a, some b => some (a ++ b)
    | _, _ => none

def dstruct (f : TypeId → DataW H → Option (List V)) (sz : TypeId → Nat) (tot : Nat) : List Field → List (DataW H) → Nat → Option (List V)
  | [], [], i => if i = tot then some [] else none
  | fl :: fs, d :: ds, i => if fl.offset = i then match f fl.type d, dstruct f sz tot fs ds (i + sz fl.type) with
    | some a, some b => some (a ++ b)
    | _, _ => none
    else none
  | _, _, _ => none

/-- What a datum of a type is to the evaluator: its cells. -/
def dataT (P : Program) : Nat → TypeId → DataW H → Option (List V)
  | 0, _, _ => none
  | fu + 1, t, d => match P.underlying t, d with
    | some .bool, .lit (.bool b) => some [.bool b]
    | some (.int k), .lit (.int j n) => if j = k then some [.int k n] else none
    | some .string, .lit (.string bs) => some [.str (bs.map (·.toNat))]
    | some (.pointer _), .nil => some [.nilp]
    | some (.pointer e), .ptr d => match dataT P fu e d with
      | some (c :: cs) => some [.pimm (c :: cs)]
      | _ => none
    | some (.slice _), .nil => some [.sl 0 [] .nil]
    | some (.slice e), .slice es _ => match dcat (dataT P fu e) es with
      | some l => some [.sl es.length l .none]
      | none => none
    | some (.struct fs), .agg ps => dstruct (dataT P fu) P.cellsOf (P.cellsOf t) fs.toList ps 0
    | some (.array n e), .agg ps => if n = ps.length ∧ n * P.cellsOf e = P.cellsOf t then dcat (dataT P fu e) ps else none
    | _, _ => none

section
variable {enc : TypeId × Value → H} {sp : Nat → Bool} {held : Bool}

theorem dstruct_ok {f : TypeId → DataW H → Option (List V)} {tot n : Nat} {cs : List Value} (hlen : cs.length = tot)
    (hf : ∀ t d l F c ps, f t d = some l → DataW.trod enc P w 0 sp held F t c = some (d, ps) → LR P (oldG w) [] l c) :
    ∀ (fs : List Field) (ds : List (DataW H)) (i : Nat) (l : List V), dstruct f P.cellsOf tot fs ds i = some l →
      (∀ (j : Nat) (fl : Field) (d : DataW H), fs[j]? = some fl → ds[j]? = some d → ∃ ps, DataW.trod enc P w 0 sp held n fl.type ((cs.drop fl.offset).take (P.cellsOf fl.type)) = some (d, ps)) →
      LR P (oldG w) [] l (cs.drop i)
  | [], [], i, l, h, _ => by
    simp only [dstruct] at h
    split at h
    · rename_i e
      cases h
      rw [e, ← hlen, List.drop_length]
      simp only [LR]
    · cases h
  | fl :: fs, d :: ds, i, l, h, hx => by
    simp only [dstruct] at h
    split at h
    · rename_i e
      split at h
      · rename_i a b' ha hb
        cases h
        obtain ⟨ps, hp⟩ := hx 0 fl d (by simp) (by simp)
        have h1 := hf _ _ _ _ _ _ ha hp
        have h2 := dstruct_ok hlen hf fs ds _ _ hb (fun j fl' d' h1 h2 => hx (j + 1) fl' d' (by simpa using h1) (by simpa using h2))
        rw [e] at h1
        have h3 := h1.append h2
        rwa [← List.drop_drop, List.take_append_drop] at h3
      · cases h
    · cases h
  | [], _ :: _, _, _, h, _ => by simp [dstruct] at h
  | _ :: _, [], _, _, h, _ => by simp [dstruct] at h

theorem dcat_LR {f : DataW H → Option (List V)} {t : TypeId} {n s : Nat} {cs : List Value}
    (hf : ∀ d l F c ps, f d = some l → DataW.trod enc P w 0 sp held F t c = some (d, ps) → LR P (oldG w) [] l c) :
    ∀ (ds : List (DataW H)) (i : Nat) (l : List V), dcat f ds = some l → cs.length = (i + ds.length) * s →
      (∀ (j : Nat) (d : DataW H), ds[j]? = some d → ∃ ps, DataW.trod enc P w 0 sp held n t ((cs.drop ((i + j) * s)).take s) = some (d, ps)) → LR P (oldG w) [] l (cs.drop (i * s))
  | [], i, l, h, hl, _ => by
    simp only [dcat] at h; cases h
    rw [List.drop_eq_nil_of_le (by simp at hl; omega)]
    simp only [LR]
  | d :: ds, i, l, h, hl, hx => by
    simp only [dcat] at h
    split at h
    · rename_i a b' ha hb
      cases h
      obtain ⟨ps, hp⟩ := hx 0 d (by simp)
      have h1 := hf _ _ _ _ _ ha hp
      have h2 := dcat_LR hf ds (i + 1) _ hb (by rw [hl]; simp only [List.length_cons]; congr 1; omega) (fun j d' hd => by
        have := hx (j + 1) d' (by simpa using hd)
        rwa [show i + (j + 1) = i + 1 + j by omega] at this)
      have h3 := h1.append h2
      rw [Nat.add_zero] at h3
      rw [show (i + 1) * s = i * s + s by rw [Nat.add_mul, Nat.one_mul], ← List.drop_drop, List.take_append_drop] at h3
      exact h3
    · cases h

theorem dcat_CR {f : DataW H → Option (List V)} {t : TypeId} {n s B o : Nat}
    (hf : ∀ d l F c ps, f d = some l → DataW.trod enc P w 0 sp held F t c = some (d, ps) → LR P (oldG w) [] l c) :
    ∀ (ds : List (DataW H)) (i : Nat) (l : List V), dcat f ds = some l →
      (∀ (j : Nat) (d : DataW H), ds[j]? = some d → ∃ c ps, w.cells? 0 ((⟨B, o, none⟩ : Addr).add ((i + j) * s)) s = some c ∧ DataW.trod enc P w 0 sp held n t c = some (d, ps)) → CR P (oldG w) [] l B (o + i * s)
  | [], i, l, h, _ => by simp only [dcat] at h; cases h; simp only [CR]
  | d :: ds, i, l, h, hx => by
    simp only [dcat] at h
    split at h
    · rename_i a1 b1 ha hb
      cases h
      obtain ⟨c, ps, hc, hp⟩ := hx 0 d (by simp)
      have h1 := hf _ _ _ _ _ ha hp
      obtain ⟨_, hcl, hcc⟩ := World.cells?_some hc
      have h2 := dcat_CR hf ds (i + 1) _ hb (fun j d' hd => by
        have := hx (j + 1) d' (by simpa using hd)
        rwa [show i + (j + 1) = i + 1 + j by omega] at this)
      refine CR.append (CR.of_at h1 fun j v hv => ?_) ?_
      · have hj : j < s := by have := (List.getElem?_eq_some_iff.1 hv).1; omega
        have := hcc j hj
        rw [hv, addr_add, addr_add, Nat.add_zero] at this
        exact (oldG_at this).2
      · rw [h1.length, hcl]
        have e : o + i * s + s = o + (i + 1) * s := by rw [Nat.add_mul, Nat.one_mul]; omega
        rw [e]; exact h2
    · cases h

theorem dcat_nil {f : DataW H → Option (List V)} {t : TypeId} {n : Nat}
    (hf : ∀ d l F c ps, f d = some l → DataW.trod enc P w 0 sp held F t c = some (d, ps) → LR P (oldG w) [] l c) :
    ∀ (ds : List (DataW H)) (l : List V), dcat f ds = some l →
      (∀ (j : Nat) (d : DataW H), ds[j]? = some d → ∃ ps, DataW.trod enc P w 0 sp held n t [] = some (d, ps)) → l = []
  | [], l, h, _ => by simp only [dcat] at h; cases h; rfl
  | d :: ds, l, h, hx => by
    simp only [dcat] at h
    split at h
    · rename_i a1 b1 ha hb
      cases h
      obtain ⟨ps, hp⟩ := hx 0 d (by simp)
      have h1 := hf _ _ _ _ _ ha hp
      have h2 := dcat_nil hf ds _ hb (fun j d' hd => hx (j + 1) d' (by simpa using hd))
      subst h2
      have := h1.length
      simp at this
      subst this
      rfl
    · cases h

theorem trod_arr {fuel : Nat} {t e : TypeId} {n : Nat} {cs : List Value} {x : DataW H × List MemPlace} (hu : P.underlying t = some (.array n e)) (h : DataW.trod enc P w 0 sp held fuel t cs = some x) :
    ∃ (xs : List (DataW H × List MemPlace)) (m : Nat), x.1 = .agg (xs.map (·.1)) ∧ cs.length = P.cellsOf t ∧ xs.length = n ∧
      ∀ i, i < n → DataW.trod enc P w 0 sp held m e ((cs.drop (i * P.cellsOf e)).take (P.cellsOf e)) = xs[i]? := by
  cases fuel with
  | zero => simp [DataW.trod] at h
  | succ m =>
    unfold DataW.trod at h
    rw [hu] at h
    simp only at h
    split at h
    · rename_i hl
      simp only [Option.map_eq_some_iff] at h
      obtain ⟨xs, hxs, rfl⟩ := h
      refine ⟨xs, m, rfl, hl, by simpa using mapM_some_length hxs, fun i hi => ?_⟩
      exact mapM_some_get hxs i i (by simp [hi])
    · cases h

theorem dataT_ok : ∀ (fu : Nat) (t : TypeId) (d : DataW H) (l : List V), dataT P fu t d = some l → ∀ (F : Nat) (cs : List Value) (ps : List MemPlace), DataW.trod enc P w 0 sp held F t cs = some (d, ps) → LR P (oldG w) [] l cs
  | 0, t, d, l, h => by simp [dataT] at h
  | fu + 1, t, d, l, h => by
    intro F cs ps ht
    have ih := dataT_ok fu
    unfold dataT at h
    split at h
    · rename_i b hu
      cases h
      obtain ⟨b', rfl, e⟩ := DataW.trod_bool hu ht
      simp only [Prod.mk.injEq, DataW.lit.injEq, Lit.bool.injEq] at e
      obtain ⟨rfl, _⟩ := e
      simp only [LR, VR]; exact ⟨_, _, rfl, rfl, rfl⟩
    · rename_i k j n hu
      split at h
      · rename_i e; subst e
        cases h
        obtain ⟨n', rfl, e, _⟩ := DataW.trod_int hu ht
        simp only [Prod.mk.injEq, DataW.lit.injEq, Lit.int.injEq, true_and] at e
        obtain ⟨rfl, _⟩ := e
        simp only [LR, VR]; exact ⟨_, _, rfl, rfl, rfl⟩
      · cases h
    · rename_i bs hu
      cases h
      obtain ⟨s, rfl, e, _⟩ := DataW.trod_string hu ht
      simp only [Prod.mk.injEq, DataW.lit.injEq, Lit.string.injEq] at e
      obtain ⟨rfl, _⟩ := e
      simp only [LR, VR]; exact ⟨_, _, rfl, ⟨s, rfl, rfl⟩, rfl⟩
    · rename_i e hu
      cases h
      rcases DataW.trod_pointer hu ht with ⟨rfl, _⟩ | ⟨a, cs', y, n, _, rfl, e, _⟩
      · simp only [LR, VR]; exact ⟨_, _, rfl, rfl, rfl⟩
      · simp at e
    · rename_i e d' hu
      split at h
      · rename_i c cs0 hd
        cases h
        rcases DataW.trod_pointer hu ht with ⟨_, e⟩ | ⟨a, cs', y, n, _, rfl, e, hc, hy⟩
        · simp at e
        · simp only [Prod.mk.injEq, DataW.ptr.injEq] at e
          obtain ⟨rfl, _⟩ := e
          have h1 := ih _ _ _ hd _ _ y.2 hy
          obtain ⟨_, hcl, hcc⟩ := World.cells?_some hc
          have hpos : 0 < P.cellsOf e := by have := h1.length; simp at this; omega
          obtain ⟨v0, hv0⟩ : ∃ v, cs'[0]? = some v := ⟨cs'[0]'(by omega), List.getElem?_eq_getElem (by omega)⟩
          have h0 := hcc 0 hpos
          rw [hv0] at h0
          have hsp : a.spot = none := by have := (oldG_at h0).1; simpa [Addr.add] using this
          obtain ⟨B, o, spt⟩ := a
          simp only at hsp
          subst hsp
          have hcr : CR P (oldG w) [] (c :: cs0) B o := CR.of_at h1 fun j v hv => by
            have hj : j < P.cellsOf e := by have := (List.getElem?_eq_some_iff.1 hv).1; omega
            have := hcc j hj
            rw [hv, addr_add] at this
            exact (oldG_at this).2
          have hvr : VR P (oldG w) [] (.pimm (c :: cs0)) (.pointer (some ⟨B, o, none⟩)) := by
            simp only [VR]
            exact ⟨B, o, rfl, hcr⟩
          simp only [LR]; exact ⟨_, _, rfl, hvr, rfl⟩
      · cases h
    · rename_i e hu
      cases h
      rcases DataW.trod_slice hu ht with ⟨rfl, _⟩ | ⟨a, len, cap, elems, rest, n, _, rfl, e, _⟩
      · simp only [LR, VR, GrR]; exact ⟨_, _, rfl, ⟨none, 0, rfl, .inl trivial, ⟨Nat.le_refl _, fun _ => rfl⟩, rfl, rfl⟩, rfl⟩
      · simp at e
    · rename_i e es sp' hu
      split at h
      · rename_i l' hd
        cases h
        rcases DataW.trod_slice hu ht with ⟨_, e⟩ | ⟨a, len, cap, elems, rest, n, _, rfl, e, _, hlc, _, hel, hx, _⟩
        · simp at e
        · simp only [Prod.mk.injEq, DataW.slice.injEq] at e
          obtain ⟨⟨rfl, _⟩, _⟩ := e
          have hxx : ∀ (j : Nat) (d : DataW H), (elems.map (·.1))[j]? = some d → ∃ c ps, w.cells? 0 (a.add ((0 + j) * P.cellsOf e)) (P.cellsOf e) = some c ∧ DataW.trod enc P w 0 sp held n e c = some (d, ps) := fun j d hd => by
            simp only [List.getElem?_map, Option.map_eq_some_iff] at hd
            obtain ⟨x, hx1, rfl⟩ := hd
            have hj : j < len := by have := (List.getElem?_eq_some_iff.1 hx1).1; omega
            have := hx j hj
            rw [hx1, Option.bind_eq_some_iff] at this
            obtain ⟨c, hc1, hc2⟩ := this
            rw [Nat.zero_add]
            exact ⟨c, x.2, hc1, hc2⟩
          have hvr : VR P (oldG w) [] (.sl (elems.map (·.1)).length l' .none) (.slice (some a) len cap) := by
            simp only [VR, GrR]
            refine ⟨some a, cap, by simp [hel], ?_, ⟨by simpa [hel] using hlc, by simp⟩, trivial⟩
            obtain ⟨B, o, spt⟩ := a
            by_cases hsp : spt = none
            · subst hsp
              right
              refine ⟨B, o, rfl, ?_⟩
              have := dcat_CR (t := e) (n := n) (s := P.cellsOf e) (B := B) (o := o) (fun d l F c ps h1 h2 => ih _ _ _ h1 _ _ _ h2) _ 0 _ hd hxx
              simpa using this
            · left
              have hz : ∀ x xs, elems = x :: xs → P.cellsOf e = 0 := fun x xs hex => by
                obtain ⟨c, ps, hc, _⟩ := hxx 0 x.1 (by rw [hex]; simp)
                obtain ⟨_, hcl, hcc⟩ := World.cells?_some hc
                rcases Nat.eq_zero_or_pos (P.cellsOf e) with h0 | h0
                · exact h0
                · have h1 := hcc 0 h0
                  obtain ⟨v0, hv0⟩ : ∃ v, c[0]? = some v := ⟨c[0]'(by omega), List.getElem?_eq_getElem (by omega)⟩
                  rw [hv0] at h1
                  exact absurd (by have := (oldG_at h1).1; simpa [Addr.add] using this) hsp
              refine dcat_nil (t := e) (n := n) (fun d l F c ps h1 h2 => ih _ _ _ h1 _ _ _ h2) _ _ hd fun j d hdj => ?_
              obtain ⟨c, ps, hc, hp⟩ := hxx j d hdj
              obtain ⟨_, hcl, _⟩ := World.cells?_some hc
              cases elems with
              | nil => simp at hdj
              | cons x xs =>
                rw [hz x xs rfl] at hcl
                have : c = [] := by simpa using hcl
                subst this
                exact ⟨ps, hp⟩
          simp only [LR]; exact ⟨_, _, rfl, hvr, rfl⟩
      · cases h
    · rename_i fs dps hu
      obtain ⟨xs, n, _, e, hlen, hxl, hx⟩ := DataW.trod_struct hu ht
      simp only [Prod.mk.injEq, DataW.agg.injEq] at e
      obtain ⟨rfl, _⟩ := e
      have := dstruct_ok (n := n) hlen (fun t d l F c ps h1 h2 => ih _ _ _ h1 _ _ _ h2) _ _ _ _ h (fun j fl d h1 h2 => by
        simp only [List.getElem?_map, Option.map_eq_some_iff] at h2
        obtain ⟨x, hx1, rfl⟩ := h2
        have := hx j fl (by simpa using h1)
        rw [hx1] at this
        exact ⟨x.2, this⟩)
      simpa using this
    · rename_i n e dps hu
      split at h
      · rename_i hne
        obtain ⟨hn1, hn2⟩ := hne
        obtain ⟨xs, n', e', hlen, hxl, hx⟩ := trod_arr hu ht
        simp only [DataW.agg.injEq] at e'
        subst e'
        have := dcat_LR (t := e) (n := n') (s := P.cellsOf e) (cs := cs) (fun d l F c ps h1 h2 => ih _ _ _ h1 _ _ _ h2) _ 0 _ h (by rw [hlen, ← hn2, Nat.zero_add, ← hn1]) (fun j d hd => by
          simp only [List.getElem?_map, Option.map_eq_some_iff] at hd
          obtain ⟨x, hx1, rfl⟩ := hd
          have hj : j < n := by have := (List.getElem?_eq_some_iff.1 hx1).1; omega
          have := hx j hj
          rw [hx1] at this
          rw [Nat.zero_add]
          exact ⟨x.2, this⟩)
        simpa using this
      · cases h
    · cases h
end

end

end Go.Sim

/- A call from the start: the environment's premises, the call's end. Conditions: none. -/
set_option linter.unusedSimpArgs false
set_option linter.unusedVariables false
namespace Go.Sim

section
variable {P : Program} {tab : Tab} {w : World}

/-- What the listed variables hold. -/
theorem laid_mem : ∀ {laid : List (String × DataW Unit)} {ps : List MemPlace}, DataW.LaidVars P w laid ps → ∀ x ∈ laid,
    ∃ g t cs fuel p, P.globalNamed x.1 = some g ∧ (P.globals[g]?).map (·.type) = some t ∧ w.var? P x.1 = some cs ∧ DataW.trod (fun _ => ()) P w 0 (fun _ => true) false fuel t cs.toList = some (x.2, p)
  | [], ps, _, x, hx => by simp at hx
  | (n, d) :: l, ps, ⟨g, t, cs, fuel, p, q, h1, h2, h3, h4, h5, _⟩, x, hx => by
    rcases List.mem_cons.1 hx with rfl | hx
    · exact ⟨g, t, cs, fuel, p, h1, h2, h3, h4⟩
    · exact laid_mem h5 x hx

theorem tab_ok {laid : List (String × DataW Unit)} (hl : laidMet P laid w)
    (ht : ∀ gl cs, tab gl = some cs → ∃ x ∈ laid, ∃ t fu, P.globalNamed x.1 = some gl ∧ (P.globals[gl]?).map (·.type) = some t ∧ dataT P fu t x.2 = some cs) : TabOK P tab (oldG w) := by
  intro gl cs hc
  obtain ⟨ps, hl, _⟩ := hl
  obtain ⟨x, hx, t, fu, h1, h2, h3⟩ := ht gl cs hc
  obtain ⟨g, t', cs', fuel, p, k1, k2, k3, k4⟩ := laid_mem hl x hx
  rw [h1] at k1; cases k1
  rw [h2] at k2; cases k2
  have hlr := dataT_ok fu t x.2 cs h3 _ _ _ k4
  refine CR.of_at hlr fun j v hv => ?_
  have hcell := World.var?_cell h1 k3 j
  have : w.cell? ⟨gl, j, none⟩ = some v := by rw [hcell]; simpa using hv
  rw [Nat.zero_add]
  exact (oldG_at this).2

-- ---------------------------------------------------------------- the model's own functions
def extFn : Xfn → Array Value → Sem Value
  | .same => Extern.AbiNoEscape.same
  | .indexByte => Extern.BytealgIndexByte.indexByte
  | .count => Extern.BytealgCount.count

theorem indexByte_nats (l : List UInt8) (c : Nat) (hc : c < 256) : Lib.indexByte l c.toUInt8 = (match (l.map (·.toNat)).findIdx? (· == c) with | some i => (i : Int) | none => -1) := by
  induction l with
  | nil => rfl
  | cons b l ih =>
    have hb : (b == c.toUInt8) = (b.toNat == c) := by
      have e : c.toUInt8.toNat = c := by simp; omega
      rw [Bool.eq_iff_iff]
      simp only [beq_iff_eq]
      constructor
      · intro h; rw [h, e]
      · intro h; exact UInt8.toNat_inj.1 (by rw [e, h])
    simp only [Lib.indexByte, List.map_cons, List.findIdx?_cons, hb]
    cases hbc : (b.toNat == c) with
    | true => simp
    | false =>
      simp only [Bool.false_eq_true, if_false]
      rw [ih]
      cases hf : (l.map (·.toNat)).findIdx? (· == c) with
      | none => simp
      | some i =>
        simp only [Option.map_some]
        have : ((i : Int) == -1) = false := by rw [beq_eq_false_iff_ne]; omega
        rw [this]
        simp

theorem count_nats (l : List UInt8) (c : Nat) (hc : c < 256) : Lib.countByte l c.toUInt8 = (l.map (·.toNat)).countP (· == c) := by
  have e : c.toUInt8.toNat = c := by simp; omega
  unfold Lib.countByte List.count
  rw [List.countP_map]
  refine List.countP_congr fun b _ => ?_
  simp only [Function.comp, beq_iff_eq]
  constructor
  · intro h; rw [h, e]
  · intro h; exact UInt8.toNat_inj.1 (by rw [e, h])

theorem extFn_ok {x : Xfn} {args : List V} {v : V} (he : extV x args = some v) {g : G} {tok : Toks} {cargs : List Value} (hl : LR P g tok args cargs) : ∃ c, (extFn x cargs.toArray).run P w = .ok c w ∧ VR P g tok v c := by
  unfold extV at he
  split at he
  · cases he
    obtain ⟨c, rfl, hc⟩ := hl.one
    exact ⟨c, rfl, hc⟩
  · rename_i s c
    split at he
    · rename_i hc
      cases he
      obtain ⟨a, b, rfl, ha, hb⟩ := hl.two
      simp only [VR] at ha hb
      obtain ⟨bs, rfl, rfl⟩ := ha
      subst hb
      refine ⟨_, Lib.run_indexByteString bs c w, ?_⟩
      simp only [VR]
      rw [Int.toNat_natCast, indexByte_nats _ _ (Nat.blt_eq.mp hc)]
      rfl
    · cases he
  · rename_i s c
    split at he
    · rename_i hc
      cases he
      obtain ⟨a, b, rfl, ha, hb⟩ := hl.two
      simp only [VR] at ha hb
      obtain ⟨bs, rfl, rfl⟩ := ha
      subst hb
      refine ⟨_, Lib.run_countString bs c w, ?_⟩
      simp only [VR]
      rw [Int.toNat_natCast, count_nats _ _ (Nat.blt_eq.mp hc)]
      rfl
    · cases he
  · cases he

theorem fnOf_code {keep : Nat → Bool} {f ntm : Nat} {body : C} {res : List RV} {kp : Bool} (h : fnOf P tab keep f = some (.code ntm body res kp)) :
    ∃ fn c, P.funcs[f]? = some fn ∧ (fn.name == "runtime.NumGoroutine") = false ∧ fn.body = some c ∧ ntm = fn.ntmps ∧ body = code P tab c ∧ allSome (fn.results.toList.map (resRV P)) = some res := by
  simp only [fnOf, Option.bind_eq_some_iff] at h
  obtain ⟨fn, hf, h⟩ := h
  split at h
  · cases h
  · rename_i hn
    split at h
    · rename_i c hb
      simp only [Option.map_eq_some_iff, Fun1.code.injEq] at h
      obtain ⟨rs, hrs, h1, h2, h3, _⟩ := h
      exact ⟨fn, c, hf, by simpa using hn, hb, h1.symm, h2.symm, by rw [← h3]; exact hrs⟩
    · simp at h

theorem fnOf_ext {keep : Nat → Bool} {f : Nat} {x : Xfn} (h : fnOf P tab keep f = some (.ext x)) :
    ∃ fn, P.funcs[f]? = some fn ∧ (fn.name == "runtime.NumGoroutine") = false ∧ fn.body = none ∧ extOf fn.name = some x := by
  simp only [fnOf, Option.bind_eq_some_iff] at h
  obtain ⟨fn, hf, h⟩ := h
  split at h
  · cases h
  · rename_i hn
    split at h
    · simp at h
    · rename_i hb
      simp only [Option.map_eq_some_iff, Fun1.ext.injEq] at h
      obtain ⟨y, hy, rfl⟩ := h
      exact ⟨fn, hf, by simpa using hn, hb, hy⟩

/-- The oracle's premise. -/
def OrcOK (P : Program) (tab : Tab) (f : Nat) (args : List V) (v : V) : Prop := ∀ g h w (cargs : List Value), R P tab g h w → TabOK P tab g → LR P g h.tok args cargs → ∀ (fr : Frame) (cs : List Frame) (m : Machine), fr.mode = .run → Goes P m fr cs ((callFunc f cargs.toArray).run P w) →
    ∃ g' w' c, R P tab g' h w' ∧ Keeps h.blk.length g h g' h [] [] ∧ VR P g' h.tok v c ∧ Steps P m (lone (fr.finish c) cs w')

theorem env_ok {E : Env} {keep : Nat → Bool} (hmix : P.follows .mixedOrders = true) (hf : ∀ f x, E.fn f = some x → fnOf P tab keep f = some x)
    (hx : ∀ f x fn, E.fn f = some (.ext x) → P.funcs[f]? = some fn → Extern.findNext fn = none ∧ Extern.find fn = some (extFn x)) (ho : ∀ f args v, E.orc f args = some v → OrcOK P tab f args v) : EnvOK P tab E where
  mixed := hmix
  code := fun f ntm body res kp h => fnOf_code (hf _ _ h)
  ext := fun f x args v h he g tok w cargs hl => by
    obtain ⟨fn, h1, h2, h3, h4⟩ := fnOf_ext (hf _ _ h)
    obtain ⟨k1, k2⟩ := hx _ _ fn h h1
    obtain ⟨c, hc, hv⟩ := extFn_ok (w := w) he hl
    refine ⟨c, ?_, hv⟩
    rw [run_callFunc_extern h1 h2 (by rw [h3]; rfl) k1 k2, hc]
    rfl
  orc := ho

-- ---------------------------------------------------------------- values without the caller's own
mutual
def V.pure : V → Bool
  | .pblk _ _ | .ms _ _ _ _ _ | .yld _ | .pby _ _ => false
  | .pimm cs | .agg cs | .tup cs => V.pureL cs
  | .sl _ cs g => (match g with | .tok _ _ => false | _ => true) && V.pureL cs
  | .fn _ cs => V.pureL cs
  | .ifc _ v => v.pure
  | _ => true
def V.pureL : List V → Bool
  | [] => true
  | v :: vs => v.pure && V.pureL vs
end

section
variable {g g' : G} {tok tok' : Toks} (hat : ∀ B o v, g.at B o = some v → g'.at B o = some v)
include hat

mutual
theorem VR.pure_mono : ∀ (v : V) (c : Value), v.pure = true → VR P g tok v c → VR P g' tok' v c
  | .bool _, _, _, h | .int _ _, _, _, h | .str _, _, _, h | .nilp, _, _, h | .nilfn, _, _, h | .nilifc, _, _, h => by simpa only [VR] using h
  | .junk, _, _, _ => by simp only [VR]
  | .pblk _ _, _, hp, _ | .ms _ _ _ _ _, _, hp, _ | .yld _, _, hp, _ | .pby _ _, _, hp, _ => by simp [V.pure] at hp
  | .pimm cs, c, hp, h => by
    simp only [V.pure] at hp
    simp only [VR] at h ⊢
    obtain ⟨B, o, h1, h2⟩ := h
    exact ⟨B, o, h1, CR.pure_mono cs B o hp h2⟩
  | .sl n cs gr, c, hp, h => by
    simp only [V.pure, Bool.and_eq_true] at hp
    simp only [VR] at h ⊢
    obtain ⟨a, k, h1, h2, h3, h4⟩ := h
    refine ⟨a, k, h1, ?_, h3, ?_⟩
    · rcases h2 with h2 | ⟨B, o, ha, h2⟩
      · exact .inl h2
      · exact .inr ⟨B, o, ha, CR.pure_mono cs B o hp.2 h2⟩
    · cases gr with
      | tok t e => simp at hp
      | _ => exact h4
  | .fn f caps, c, hp, h => by
    simp only [V.pure] at hp
    simp only [VR] at h ⊢
    obtain ⟨cvs, h1, h2⟩ := h
    exact ⟨cvs, h1, LR.pure_mono caps cvs hp h2⟩
  | .ifc t x, c, hp, h => by
    simp only [V.pure] at hp
    simp only [VR] at h ⊢
    obtain ⟨y, h1, h2⟩ := h
    exact ⟨y, h1, VR.pure_mono x y hp h2⟩
  | .agg cs, c, hp, h => by
    simp only [V.pure] at hp
    simp only [VR] at h ⊢
    obtain ⟨cvs, h1, h2⟩ := h
    exact ⟨cvs, h1, LR.pure_mono cs cvs hp h2⟩
  | .tup cs, c, hp, h => by
    simp only [V.pure] at hp
    simp only [VR] at h ⊢
    obtain ⟨cvs, h1, h2⟩ := h
    exact ⟨cvs, h1, LR.pure_mono cs cvs hp h2⟩
theorem LR.pure_mono : ∀ (vs : List V) (cs : List Value), V.pureL vs = true → LR P g tok vs cs → LR P g' tok' vs cs
  | [], cs, _, h => by simpa only [LR] using h
  | v :: vs, cs, hp, h => by
    simp only [V.pureL, Bool.and_eq_true] at hp
    simp only [LR] at h ⊢
    obtain ⟨c, cs', rfl, h1, h2⟩ := h
    exact ⟨c, cs', rfl, VR.pure_mono v c hp.1 h1, LR.pure_mono vs cs' hp.2 h2⟩
theorem CR.pure_mono : ∀ (vs : List V) (B o : Nat), V.pureL vs = true → CR P g tok vs B o → CR P g' tok' vs B o
  | [], _, _, _, _ => by simp only [CR]
  | v :: vs, B, o, hp, h => by
    simp only [V.pureL, Bool.and_eq_true] at hp
    simp only [CR] at h ⊢
    obtain ⟨⟨c, hc, h1⟩, h2⟩ := h
    exact ⟨⟨c, hat B o c hc, VR.pure_mono v c hp.1 h1⟩, CR.pure_mono vs B (o + 1) hp.2 h2⟩
end
end

end

end Go.Sim

/- A call from the start, whole; results handed on. Conditions: none. -/
set_option linter.unusedSimpArgs false
set_option linter.unusedVariables false
namespace Go.Sim

section
variable {P : Program} {tab : Tab} {E : Env}

/-- **A call of a function from the start**: it returns; what lay there stays. -/
theorem top_ok (hE : EnvOK P tab E) {n f ntm : Nat} {body : C} {res : List RV} {kp : Bool} (hf : E.fn f = some (.code ntm body res kp)) {args : List V} (ho : E.orc f args = none) (hsp : E.split f = none)
    {out : Out} {v : V} (he : eval E (n + 1) (.fn f []) args .off h00 = some out) (hr : out.r = .ret v) {w : World} (tb : TabOK P tab (oldG w)) {cargs : List Value} (hl : LR P (oldG w) [] args cargs) :
    Calls P f cargs.toArray w fun e w' => ∃ c, e = .returned c ∧ (∃ g tok, VR P g tok v c) ∧ w'.os = w.os ∧ w'.output = w.output ∧ ∀ (i : Nat) (o : Obj), w.heap[i]? = some o → w'.heap[i]? = some o := by
  intro cs
  obtain ⟨hc, hd⟩ := eval_ok hE n
  simp only [eval, List.append_nil, callFn, hsp] at he
  unfold callFn1 at he
  rw [ho] at he
  simp only [hf] at he
  obtain ⟨fn, c, hfn, hname, hb, rfl, rfl, hres⟩ := hE.code _ _ _ _ _ hf
  split at he
  · cases he
  · rename_i x s hrun
    split at he
    · cases he
    · rename_i md hmd
      have key := fun m' h' es et (hdf : runDf (eval E n) h00.blk.length s.df md s.h s.es s.et = some (m', h', es, et)) =>
        frame_run hc hd (parts_ok hE.mixed hc) hfn hb (R.start (tab := tab) w) tb hl (kind := .normal) (cs := cs) (rc := .off) ⟨rfl, rfl⟩ hrun hmd hdf
      have roff : ∀ g1 tok1 cs', RcR P g1 tok1 s.rc (fr0 f .normal) cs cs' → cs' = cs := by
        intro g1 tok1 cs' hr
        cases hrc : s.rc <;> rw [hrc] at hr
        · exact hr.1
        · exact hr.1
        · exact hr.1
        · exact absurd hr.1 (by simp [fr0])
      split at he
      · cases he
      · rename_i h' es et hdf
        split at he
        · cases he
        · rename_i v0 hv0
          simp only [Option.some.injEq] at he
          obtain ⟨g1, w1, fr1, cs1, r1, tb1, k1, t1, hm1, hd1, hk1, hf1, hro1, hst, g2, tok2, hrc⟩ := key _ _ _ _ hdf
          obtain rfl := roff _ _ _ hrc
          obtain ⟨c1, hres1, hv1⟩ := results_ok r1 t1 hres hv0
          generalize hfin : fin h00.blk.length h00.tok.length kp v0 h' es et = q at he
          obtain ⟨v', h''⟩ := q
          obtain ⟨g3, r3, hv3, k3⟩ := fin_ok (R.start (tab := tab) w) r1 k1 hv1 _ _ hfin
          subst he
          simp only [Ret.ret.injEq] at hr
          rw [hr] at hv3
          have hio : (w1.os, w1.output) = (w.os, w.output) := by rw [r1.io, k1.ext.io]; rfl
          simp only [Prod.mk.injEq] at hio
          refine ⟨.returned c1, w1, fr1, ⟨c1, rfl, ⟨g3, _, hv3⟩, hio.1, hio.2, fun i o hi => ?_⟩, hst, hf1, hm1, hd1, hk1, fn, by rw [hf1]; exact hfn, hres1⟩
          exact r1.oOld i o (k1.ext.old i o (by simp only [oldG, hi]))
      · simp only [Option.some.injEq] at he
        subst he
        cases hr

/-- What lies there, all of it fixed; what is known of it may be looked at. -/
def frzG (g : G) (w : World) : G :=
  { own := fun B => match g.own B with
      | .free => .free
      | _ => match w.heap[B]? with | some o => .old o | none => .free,
    phi := fun _ => 0, tk := fun _ => ⟨0, 0⟩, lp := fun _ => 0, io := ((w.os, w.output), fun B o => (g.at B o).isSome) }

theorem frzG_own (g : G) (w : World) (B : Nat) : (frzG g w).own B = .free ∨ ∃ o, w.heap[B]? = some o ∧ (frzG g w).own B = .old o ∧ g.own B ≠ .free := by
  by_cases h1 : g.own B = .free
  · left; simp only [frzG, h1]
  · have e : (frzG g w).own B = match w.heap[B]? with | some o => .old o | none => .free := by
      simp only [frzG]
    cases h2 : w.heap[B]? with
    | none => left; rw [e, h2]
    | some o => exact .inr ⟨o, rfl, by rw [e, h2], h1⟩

theorem frzG_old {g : G} {h : H} {w : World} (r : R P tab g h w) {B : Nat} (hB : g.own B ≠ .free) : ∃ o, w.heap[B]? = some o ∧ (frzG g w).own B = .old o := by
  have hlt := r.lt hB
  obtain ⟨o, ho⟩ : ∃ o, w.heap[B]? = some o := ⟨w.heap[B], Array.getElem?_eq_getElem hlt⟩
  refine ⟨o, ho, ?_⟩
  simp only [frzG]
  cases h1 : g.own B <;> simp only [ho] <;> first
    | rfl
    | exact absurd h1 hB

theorem frz_start {g : G} {h : H} {w : World} (r : R P tab g h w) : R P tab (frzG g w) h00 w where
  blk := fun b ty cs hb _ => by simp [h00] at hb
  oOld := fun B o ho => by
    rcases frzG_own g w B with h | ⟨o', h1, h2, _⟩
    · rw [h] at ho; cases ho
    · rw [h2] at ho; cases ho; exact h1
  oBlk := fun B b ho => by rcases frzG_own g w B with h | ⟨o', _, h, _⟩ <;> rw [h] at ho <;> cases ho
  oRow := fun B ty f t ho => by rcases frzG_own g w B with h | ⟨o', _, h, _⟩ <;> rw [h] at ho <;> cases ho
  oLp := fun B l ho => by rcases frzG_own g w B with h | ⟨o', _, h, _⟩ <;> rw [h] at ho <;> cases ho
  oDfr := fun B ho => by rcases frzG_own g w B with h | ⟨o', _, h, _⟩ <;> rw [h] at ho <;> cases ho
  fresh := fun B hB => by simp only [frzG, r.fresh B hB]
  tok := fun t m ty hm => by simp [h00] at hm
  lps := fun l p hp => by simp [h00] at hp
  io := rfl

theorem frz_at {g : G} {h : H} {w : World} (r : R P tab g h w) (B o : Nat) (v : Value) (hv : g.at B o = some v) : (frzG g w).at B o = some v := by
  have hB : g.own B ≠ .free := fun e => by simp only [G.at, e] at hv; cases hv
  obtain ⟨ob, h1, h2⟩ := frzG_old r hB
  have hc := r.at_cell hv
  have hs : (frzG g w).io.2 B o = true := by show (g.at B o).isSome = true; rw [hv]; rfl
  simp only [World.cell?, h1] at hc
  simp only [G.at, h2]
  cases ob <;> simp only at hc ⊢ <;> first
    | (cases hc; done)
    | (rw [hs]; simpa using hc)

/-- What a call made and knew at its end. -/
def newOwn (g1 : G) (B : Nat) : Own := match g1.own B with
  | .old (.cells _ ty _) => .row ty (fun o => g1.at B o) none
  | .old _ => .free
  | x => x

/-- What was known ahead of a call, and what the call knew at its end. -/
def joinG (g g1 : G) : G := { g with own := fun B => match g.own B with | .free => newOwn g1 B | x => x }

theorem joinG_own {g g1 : G} {B : Nat} (h : g.own B ≠ .free) : (joinG g g1).own B = g.own B := by
  simp only [joinG]
theorem joinG_new {g g1 : G} {B : Nat} (h : g.own B = .free) : (joinG g g1).own B = newOwn g1 B := by simp only [joinG, h]

theorem joinG_at_old {g g1 : G} {B o : Nat} (h : g.own B ≠ .free) : (joinG g g1).at B o = g.at B o := by
  simp only [G.at, joinG_own h]; rfl

theorem joinG_at_new {g g1 : G} {B o : Nat} (h : g.own B = .free) {v : Value} (hv : g1.at B o = some v) : (joinG g g1).at B o = some v := by
  have hn := joinG_new (g1 := g1) h
  unfold newOwn at hn
  simp only [G.at] at hv
  simp only [G.at, hn]
  cases h1 : g1.own B with
  | old ob =>
    rw [h1] at hv
    cases ob <;> first
      | (show (none : Option Value) = some v; exact hv)
      | exact hv
  | row ty f t => rw [h1] at hv; exact hv
  | _ => rw [h1] at hv; cases hv

/-- **A result handed on**: what a call of closed arguments comes to at an empty heap it comes to at any. -/
theorem orc_ok (hE : EnvOK P tab E) (htab : ∀ gl cs, tab gl = some cs → V.pureL cs = true) {n f : Nat} {args : List V} (hpa : V.pureL args = true) {out : Out} {v : V}
    (he : eval E n (.fn f []) args .off h00 = some out) (hr : out.r = .ret v) (hpv : v.pure = true) (hb : out.h.blk = []) (hlp : out.h.lps = []) : OrcOK P tab f args v := by
  intro g h w cargs r tb hl fr cs m hm hgo
  have hfz := fun B o v => frz_at r B o v
  have tb0 : TabOK P tab (frzG g w) := fun gl cs hc => CR.pure_mono hfz cs gl 0 (htab gl cs hc) (tb gl cs hc)
  have hl0 : LR P (frzG g w) h00.tok args cargs := LR.pure_mono hfz args cargs hpa hl
  have hdr : DfR P (frzG g w) h00.tok (.fn f []) args { target := .fn (.func f) #[], args := cargs.toArray } := ⟨cargs, hl0, rfl, [], by simp only [LR], rfl⟩
  obtain ⟨g1, w1, c, r1, k1, hfr⟩ := (eval_ok hE n).1 _ _ _ _ he (frzG g w) w _ (frz_start r) tb0 hdr fr cs m hm (by simpa [invoke] using hgo)
  rw [hr] at hfr
  obtain ⟨hv, hst⟩ := hfr
  -- what was there is there
  have old1 : ∀ B, g.own B ≠ .free → ∃ o, g1.own B = .old o ∧ w.heap[B]? = some o := fun B hB => by
    obtain ⟨o, h1, h2⟩ := frzG_old r hB
    exact ⟨o, k1.ext.old B o h2, h1⟩
  have same : ∀ B, g.own B ≠ .free → w1.heap[B]? = w.heap[B]? := fun B hB => by
    obtain ⟨o, h1, h2⟩ := old1 B hB
    rw [h2]; exact r1.oOld B o h1
  have noblk : ∀ B b, g1.own B ≠ .blk b := fun B b e => by have := (r1.oBlk B b e).1; rw [hb] at this; simp at this
  have nolp : ∀ B l, g1.own B ≠ .lp l := fun B l e => by have := (r1.oLp B l e).1; rw [hlp] at this; simp at this
  have hio : (w1.os, w1.output) = g.io.1 := by
    have e1 := r1.io
    rw [k1.ext.io] at e1
    rw [e1, ← r.io]; rfl
  have ne : ∀ {B : Nat} {x : Own}, g.own B = x → x ≠ .free → g.own B ≠ .free := fun e hx => by rw [e]; exact hx
  have hat : ∀ B o v, g.at B o = some v → (joinG g g1).at B o = some v := fun B o v hv => by
    rw [joinG_at_old fun e => by simp only [G.at, e] at hv; cases hv]; exact hv
  have hat1 : ∀ B o v, g1.at B o = some v → (joinG g g1).at B o = some v := fun B o v hv => by
    by_cases hB : g.own B = .free
    · exact joinG_at_new hB hv
    · rw [joinG_at_old hB]
      obtain ⟨ob, h1, h2⟩ := old1 B hB
      have hc := r1.at_cell hv
      have hs : g1.io.2 B o = true := by
        simp only [G.at, h1] at hv
        cases ob <;> simp only at hv <;> first
          | (cases hv; done)
          | (cases hx : g1.io.2 B o with
             | true => rfl
             | false => rw [hx] at hv; cases hv)
      rw [k1.ext.io] at hs
      have hs : (g.at B o).isSome = true := hs
      obtain ⟨v', hv'⟩ := Option.isSome_iff_exists.1 hs
      have hc' := r.at_cell hv'
      simp only [World.cell?, same B hB] at hc hc'
      rw [hc] at hc'
      rw [hv', ← hc']
  -- what the join says of a block
  have back : ∀ {B : Nat} {x : Own}, (joinG g g1).own B = x → x ≠ .free → (g.own B = x) ∨ (g.own B = .free ∧ newOwn g1 B = x) := fun {B x} e hx => by
    by_cases hB : g.own B = .free
    · rw [joinG_new hB] at e; exact .inr ⟨hB, e⟩
    · rw [joinG_own hB] at e; exact .inl e
  have new_blk : ∀ B b, newOwn g1 B ≠ .blk b := fun B b e => by
    unfold newOwn at e
    cases h1 : g1.own B with
    | blk b' => exact noblk B b' h1
    | old ob => rw [h1] at e; cases ob <;> cases e
    | _ => rw [h1] at e; cases e
  have new_lp : ∀ B b, newOwn g1 B ≠ .lp b := fun B b e => by
    unfold newOwn at e
    cases h1 : g1.own B with
    | lp b' => exact nolp B b' h1
    | old ob => rw [h1] at e; cases ob <;> cases e
    | _ => rw [h1] at e; cases e
  have new_old : ∀ B o, newOwn g1 B ≠ .old o := fun B o e => by
    unfold newOwn at e
    cases h1 : g1.own B with
    | old ob => rw [h1] at e; cases ob <;> cases e
    | _ => rw [h1] at e; cases e
  have hsz : w.heap.size ≤ w1.heap.size ∨ ∀ B, w1.heap.size ≤ B → g.own B = .free := by
    right
    intro B hge
    by_cases hB : g.own B = .free
    · exact hB
    · obtain ⟨o, h1, h2⟩ := old1 B hB
      have := r1.oOld B o h1
      have := (Array.getElem?_eq_some_iff.1 this).1
      omega
  have ext : Ext g h.tok (joinG g g1) h.tok := by
    refine ⟨hat, fun b hb' => ⟨rfl, ?_⟩, fun l hl' => ⟨rfl, ?_⟩, fun B ty f t hB => ⟨f, t, ?_⟩, fun t m ty hm => ⟨m, hm, Nat.le_refl _, fun _ => rfl⟩, fun D hD => ?_, fun B o hB => ?_, rfl⟩
    · rw [joinG_own (ne hb' (by simp))]; exact hb'
    · rw [joinG_own (ne hl' (by simp))]; exact hl'
    · rw [joinG_own (ne hB (by simp))]; exact hB
    · rw [joinG_own (ne hD (by simp))]; exact hD
    · rw [joinG_own (ne hB (by simp))]; exact hB
  have R' : R P tab (joinG g g1) h w1 := by
    constructor
    · intro b ty cs hb' ho
      rcases back ho (by simp) with h1 | ⟨_, h1⟩
      · obtain ⟨vs, h2, h3⟩ := r.blk b ty cs hb' h1
        exact ⟨vs, by show w1.heap[g.phi b]? = _; rw [same (g.phi b) (ne h1 (by simp))]; exact h2, LR.mono ext _ _ h3⟩
      · exact absurd h1 (new_blk _ _)
    · intro B o ho
      rcases back ho (by simp) with h1 | ⟨_, h1⟩
      · rw [same _ (ne h1 (by simp))]; exact r.oOld B o h1
      · exact absurd h1 (new_old _ _)
    · intro B b ho
      rcases back ho (by simp) with h1 | ⟨_, h1⟩
      · exact r.oBlk B b h1
      · exact absurd h1 (new_blk _ _)
    · intro B ty f t ho
      rcases back ho (by simp) with h1 | ⟨_, h1⟩
      · rw [same _ (ne h1 (by simp))]; exact r.oRow B ty f t h1
      · unfold newOwn at h1
        cases h2 : g1.own B with
        | old ob =>
          rw [h2] at h1
          cases ob <;> simp only at h1 <;> first
            | (cases h1; done)
            | skip
          rename_i carr cty cfz
          simp only [Own.row.injEq] at h1
          obtain ⟨rfl, rfl, rfl⟩ := h1
          have h3 := r1.oOld B _ h2
          refine ⟨carr, cfz, h3, fun o v hv => ?_⟩
          have := r1.at_cell hv
          simpa [World.cell?, h3] using this
        | row ty' f' t' => rw [h2] at h1; cases h1; exact r1.oRow B _ _ _ h2
        | _ => rw [h2] at h1; cases h1
    · intro B l ho
      rcases back ho (by simp) with h1 | ⟨_, h1⟩
      · exact r.oLp B l h1
      · exact absurd h1 (new_lp _ _)
    · intro B ho
      rcases back ho (by simp) with h1 | ⟨_, h1⟩
      · rw [same _ (ne h1 (by simp))]; exact r.oDfr B h1
      · unfold newOwn at h1
        cases h2 : g1.own B with
        | dfr => exact r1.oDfr B h2
        | old ob => rw [h2] at h1; cases ob <;> cases h1
        | _ => rw [h2] at h1; cases h1
    · intro B hge
      have h1 : g.own B = .free := by
        rcases hsz with h | h
        · exact r.fresh B (by omega)
        · exact h B hge
      rw [joinG_new h1]
      unfold newOwn
      rw [r1.fresh B hge]
    · intro t m ty hm'
      obtain ⟨h1, f, h2, h3, arr, fz, h4, h5, h6⟩ := r.tok t m ty hm'
      have hB := ne h2 (by simp)
      exact ⟨h1, f, by show (joinG g g1).own (g.tk t).blk = _; rw [joinG_own hB]; exact h2, h3, arr, fz, by show w1.heap[(g.tk t).blk]? = _; rw [same _ hB]; exact h4, h5, h6⟩
    · intro l p hp
      obtain ⟨lc, h1, h2, h3⟩ := r.lps l p hp
      have hB := ne h1 (by simp)
      exact ⟨lc, by show (joinG g g1).own (g.lp l) = _; rw [joinG_own hB]; exact h1, by show w1.heap[g.lp l]? = _; rw [same _ hB]; exact h2, h3.state, h3.pend, h3.pendX, h3.tm.mono ext, h3.params, h3.assign, h3.body, h3.fn⟩
    · exact hio
  refine ⟨joinG g g1, w1, c, R', ⟨ext, Nat.le_refl _, fun b hb' ho => ?_, fun b ty cs' _ hcs => ⟨cs', hcs, fun _ _ hc => .inl hc⟩, rfl, fun _ p h => ⟨p, h, rfl⟩⟩, VR.pure_mono hat1 v c hpv hv, hst⟩
  rcases back ho (by simp) with h1 | ⟨_, h1⟩
  · exact h1
  · exact absurd h1 (new_blk _ _)

end

end Go.Sim

