/- One operation of the evaluator's is one of the machine's: those that read. Conditions: none. -/
import Derived.Test.YthegbcgdpkpiiaaGreatDoorSimA
import Derived.Control
import Derived.Laws.Cells
import Derived.Laws.Entries
import GoSem.Dispatch
import Derived.Laws.Strings
import Derived.Laws.Pointers
import Derived.Laws.Small
import Derived.Laws.Slices
import Derived.LaidEql
import Derived.Laws.BytesString
import Derived.Laws.LoneSync
set_option linter.all false
/- The evaluator's whole numbers are the machine's. Conditions: none. -/
set_option linter.unusedSimpArgs false
set_option linter.unusedVariables false
namespace Go.Sim

theorem eqI_eq (a b : Int) : eqI a b = (a == b) := by
  cases a with
  | ofNat m => cases b with
    | ofNat n =>
      simp only [eqI]
      rw [Bool.eq_iff_iff]; simp [Nat.beq_eq]; omega
    | negSucc n => simp [eqI]
  | negSucc m => cases b with
    | ofNat n => simp [eqI]
    | negSucc n =>
      simp only [eqI]
      rw [Bool.eq_iff_iff]; simp [Nat.beq_eq]

theorem ltI_eq (a b : Int) : ltI a b = decide (a < b) := by
  cases a with
  | ofNat m => cases b with
    | ofNat n =>
      simp only [ltI]
      rw [Bool.eq_iff_iff]; simp [Nat.blt_eq]
    | negSucc n => simp only [ltI]; symm; rw [decide_eq_false_iff_not]; simp; omega
  | negSucc m => cases b with
    | ofNat n => simp only [ltI]; symm; rw [decide_eq_true_eq]; simp; omega
    | negSucc n =>
      simp only [ltI]
      rw [Bool.eq_iff_iff]; simp [Nat.blt_eq]; omega

theorem modK_bits (k : IntKind) : (modK k : Int) = 2 ^ k.bits := by cases k <;> rfl

theorem wrap_signed {k : IntKind} (hs : k.signed = true) (n : Int) : k.wrap n = if n % (modK k : Int) ≥ (halfK k : Int) then n % (modK k : Int) - (modK k : Int) else n % (modK k : Int) := by
  unfold IntKind.wrap
  rw [← modK_bits]
  have : (2 : Int) ^ (k.bits - 1) = (halfK k : Int) := by cases k <;> first | rfl | cases hs
  simp only [hs, Bool.true_and, decide_eq_true_eq, this]

theorem wrap_unsigned {k : IntKind} (hs : k.signed = false) (n : Int) : k.wrap n = n % (modK k : Int) := by
  unfold IntKind.wrap
  rw [← modK_bits]
  simp only [hs, Bool.false_and, Bool.false_eq_true, if_false]

theorem half_signed {k : IntKind} (hs : k.signed = true) : modK k = 2 * halfK k ∧ 0 < halfK k := by cases k <;> first | exact ⟨rfl, by decide⟩ | cases hs
theorem half_unsigned {k : IntKind} (hs : k.signed = false) : halfK k = modK k ∧ 0 < halfK k := by cases k <;> first | exact ⟨rfl, by decide⟩ | cases hs

theorem ofU_eq (k : IntKind) (u : Nat) (hu : u < modK k) : ofU k u = k.wrap u := by
  have hm : (u : Int) % (modK k : Int) = (u : Int) := Int.emod_eq_of_lt (by omega) (by omega)
  unfold ofU
  cases hs : k.signed with
  | true =>
    obtain ⟨h1, h2⟩ := half_signed hs
    rw [wrap_signed hs, hm]
    by_cases h : u < halfK k
    · rw [if_pos h, if_neg (by omega)]; rfl
    · rw [if_neg h, if_pos (by omega), Int.negSucc_eq]; omega
  | false =>
    obtain ⟨h1, h2⟩ := half_unsigned hs
    rw [wrap_unsigned hs, hm, if_pos (by omega)]; rfl

theorem wr_eq (k : IntKind) (n : Int) : wr k n = k.wrap n := by
  have key : ∀ u : Nat, u < modK k → (u : Int) % (modK k : Int) = n % (modK k : Int) → k.wrap u = k.wrap n := by
    intro u _ h
    rw [modK_bits] at h
    unfold IntKind.wrap
    simp only [h]
  have hpos : 0 < modK k := by cases k <;> simp [modK]
  cases n with
  | ofNat m =>
    simp only [wr]
    by_cases h : m < halfK k
    · rw [if_pos h]
      have hm : m < modK k := by cases k <;> simp only [halfK, modK] at h ⊢ <;> omega
      have := ofU_eq k m hm
      unfold ofU at this
      rw [if_pos h] at this
      exact this
    · rw [if_neg h, ofU_eq k _ (Nat.mod_lt _ hpos)]
      refine key _ (Nat.mod_lt _ hpos) ?_
      simp
  | negSucc m =>
    simp only [wr]
    have hml := Nat.mod_lt m hpos
    have hlt : modK k - 1 - m % modK k < modK k := by omega
    rw [ofU_eq k _ hlt]
    refine key _ hlt ?_
    have hdm := Nat.div_add_mod m (modK k)
    have e : (Int.negSucc m) = ((modK k - 1 - m % modK k : Nat) : Int) + (modK k : Int) * (-(m / modK k : Nat) - 1) := by
      rw [Int.negSucc_eq]
      have h1 : ((modK k - 1 - m % modK k : Nat) : Int) = (modK k : Int) - 1 - ((m % modK k : Nat) : Int) := by omega
      have h2 : (m : Int) = (modK k : Int) * ((m / modK k : Nat) : Int) + ((m % modK k : Nat) : Int) := by exact_mod_cast hdm.symm
      rw [h1, h2, Int.mul_sub, Int.mul_neg]
      omega
    rw [e, Int.add_mul_emod_self_left]

theorem toU_mod (k : IntKind) (n : Int) : (toU k n : Int) = n % (modK k : Int) := by
  have hpos : 0 < modK k := by cases k <;> simp [modK]
  cases n with
  | ofNat m => simp [toU]
  | negSucc m =>
    simp only [toU]
    have hml := Nat.mod_lt m hpos
    have hdm := Nat.div_add_mod m (modK k)
    have e : (Int.negSucc m) = ((modK k - 1 - m % modK k : Nat) : Int) + (modK k : Int) * (-(m / modK k : Nat) - 1) := by
      rw [Int.negSucc_eq]
      have h1 : ((modK k - 1 - m % modK k : Nat) : Int) = (modK k : Int) - 1 - ((m % modK k : Nat) : Int) := by omega
      have h2 : (m : Int) = (modK k : Int) * ((m / modK k : Nat) : Int) + ((m % modK k : Nat) : Int) := by exact_mod_cast hdm.symm
      rw [h1, h2, Int.mul_sub, Int.mul_neg]
      omega
    rw [e, Int.add_mul_emod_self_left]
    exact (Int.emod_eq_of_lt (by omega) (by omega)).symm

theorem toU_eq (k : IntKind) (n : Int) : toU k n = (BitVec.ofInt k.bits n).toNat := by
  rw [BitVec.toNat_ofInt]
  have h := toU_mod k n
  rw [modK_bits] at h
  have : ((2 ^ k.bits : Nat) : Int) = 2 ^ k.bits := by norm_cast
  rw [this, ← h]; simp

theorem toU_lt (k : IntKind) (n : Int) : toU k n < modK k := by
  have hpos : 0 < modK k := by cases k <;> simp [modK]
  cases n with
  | ofNat m => simp only [toU]; exact Nat.mod_lt _ hpos
  | negSucc m => simp only [toU]; omega

theorem modK_pow (k : IntKind) : modK k = 2 ^ k.bits := by cases k <;> rfl

theorem and_eq (k : IntKind) (a b : Int) : ofU k (toU k a &&& toU k b) = k.wrap (BitVec.ofInt k.bits a &&& BitVec.ofInt k.bits b).toNat := by
  rw [BitVec.toNat_and, ← toU_eq, ← toU_eq]
  exact ofU_eq k _ (Nat.lt_of_le_of_lt Nat.and_le_left (toU_lt k a))
theorem or_eq (k : IntKind) (a b : Int) : ofU k (toU k a ||| toU k b) = k.wrap (BitVec.ofInt k.bits a ||| BitVec.ofInt k.bits b).toNat := by
  rw [BitVec.toNat_or, ← toU_eq, ← toU_eq]
  refine ofU_eq k _ ?_
  rw [modK_pow]; exact Nat.or_lt_two_pow (by rw [← modK_pow]; exact toU_lt k a) (by rw [← modK_pow]; exact toU_lt k b)
theorem xor_eq (k : IntKind) (a b : Int) : ofU k (toU k a ^^^ toU k b) = k.wrap (BitVec.ofInt k.bits a ^^^ BitVec.ofInt k.bits b).toNat := by
  rw [BitVec.toNat_xor, ← toU_eq, ← toU_eq]
  refine ofU_eq k _ ?_
  rw [modK_pow]; exact Nat.xor_lt_two_pow (by rw [← modK_pow]; exact toU_lt k a) (by rw [← modK_pow]; exact toU_lt k b)
theorem not_toNat (k : IntKind) (b : Int) : (~~~ BitVec.ofInt k.bits b).toNat = modK k - 1 - toU k b := by
  rw [BitVec.toNat_not, ← toU_eq, modK_pow]
theorem andNot_eq (k : IntKind) (a b : Int) : ofU k (toU k a &&& (modK k - 1 - toU k b)) = k.wrap (BitVec.ofInt k.bits a &&& ~~~ BitVec.ofInt k.bits b).toNat := by
  rw [BitVec.toNat_and, ← toU_eq, not_toNat]
  exact ofU_eq k _ (Nat.lt_of_le_of_lt Nat.and_le_left (toU_lt k a))
theorem xorAll_eq (k : IntKind) (n : Int) :
    ofU k (modK k - 1 - toU k n) = k.wrap (BitVec.ofInt k.bits (if k.signed then -1 else k.max) ^^^ BitVec.ofInt k.bits n).toNat := by
  have h : BitVec.ofInt k.bits (if k.signed then -1 else k.max) = BitVec.allOnes k.bits := by cases k <;> rfl
  rw [h, BitVec.allOnes_xor, not_toNat]
  refine ofU_eq k _ ?_
  have hpos : 0 < modK k := by cases k <;> simp [modK]
  omega

theorem bitsK_eq (k : IntKind) : bitsK k = k.bits := by cases k <;> rfl

theorem intV_eq (k : IntKind) (n : Int) : intV k n = some (.int k n) := forceI_eq _ _

end Go.Sim

/- One operation of the evaluator's is one of the machine's: the words. Conditions: none. -/
set_option linter.unusedSimpArgs false
set_option linter.unusedVariables false
namespace Go.Sim

section
variable {P : Program} {tab : Tab} {g : G} {h : H} {w : World} {tok : Toks}

theorem run_size {t n : Nat} (hn : sizeB P t = some n) (w : World) : (sizeOf t).run P w = .ok n w := by
  simp only [sizeB, Option.map_eq_some_iff] at hn
  obtain ⟨i, hi, rfl⟩ := hn
  simp [sizeOf, typeInfo, hi]

theorem run_info {t : Nat} {i : TypeInfo} (hi : P.info? t = some i) (w : World) : (typeInfo t).run P w = .ok i w := by
  simp [typeInfo, hi]

theorem run_agg {t : Nat} {b : Bool} (hb : aggB P t = some b) (w : World) : (isAgg t).run P w = .ok b w := by
  unfold aggB at hb
  unfold isAgg
  split at hb
  · rename_i fs hu; cases hb; simp [run_underlying hu]
  · rename_i n e hu; cases hb; simp [run_underlying hu]
  · rename_i d h1 h2 hu
    cases hb
    simp only [Sem.run_bind, run_underlying hu, Result.andThen_ok]
    rfl
  · cases hb

theorem cellsOf_size {t n : Nat} (hn : sizeB P t = some n) : P.cellsOf t = n := by
  simp only [sizeB] at hn
  simp [Program.cellsOf, hn]

-- ---------------------------------------------------------------- constants
mutual
theorem constV_ok : ∀ (v : Value) (x : V), constV v = some x → VR P g tok x v
  | .bool b, x, hx => by simp only [constV] at hx; cases hx; simp only [VR]
  | .int k n, x, hx => by simp only [constV] at hx; cases hx; simp only [VR]
  | .string s, x, hx => by simp only [constV] at hx; cases hx; simp only [VR]; exact ⟨s, rfl, rfl⟩
  | .pointer none, x, hx => by simp only [constV] at hx; cases hx; simp only [VR]
  | .slice none 0 0, x, hx => by simp only [constV] at hx; cases hx; simp only [VR]; exact ⟨none, 0, rfl, .inl trivial, ⟨Nat.le_refl _, fun _ => rfl⟩, rfl, rfl⟩
  | .nilFunc, x, hx => by simp only [constV] at hx; cases hx; simp only [VR]
  | .nilIface, x, hx => by simp only [constV] at hx; cases hx; simp only [VR]
  | .agg ⟨cs⟩, x, hx => by
    simp only [constV, Option.map_eq_some_iff] at hx
    obtain ⟨ys, hy, rfl⟩ := hx
    simp only [VR]; exact ⟨cs, rfl, constL_ok cs ys hy⟩
  | .tuple ⟨cs⟩, x, hx => by
    simp only [constV, Option.map_eq_some_iff] at hx
    obtain ⟨ys, hy, rfl⟩ := hx
    simp only [VR]; exact ⟨cs, rfl, constL_ok cs ys hy⟩
  | .pointer (some _), x, hx => by simp [constV] at hx
  | .slice (some _) _ _, x, hx => by simp [constV] at hx
  | .slice none (_ + 1) _, x, hx => by simp [constV] at hx
  | .slice none 0 (_ + 1), x, hx => by simp [constV] at hx
  | .float _ _, x, hx | .complex _ _ _, x, hx | .map _, x, hx | .chan _, x, hx | .func _ _ _, x, hx | .iface _ _, x, hx => by simp [constV] at hx
theorem constL_ok : ∀ (vs : List Value) (xs : List V), constL vs = some xs → LR P g tok xs vs
  | [], xs, hx => by simp only [constL] at hx; cases hx; simp only [LR]
  | v :: vs, xs, hx => by
    simp only [constL] at hx
    split at hx
    · rename_i x ys h1 h2
      cases hx
      simp only [LR]
      exact ⟨v, vs, rfl, constV_ok v x h1, constL_ok vs ys h2⟩
    · cases hx
end

theorem run_zero {t : Nat} {z : V} (hz : zeroOf P t = some z) (w : World) : ∃ c, (zeroValue t).run P w = .ok c w ∧ VR P g tok z c ∧ ∃ i, P.info? t = some i ∧ i.zero = some c := by
  simp only [zeroOf, Option.bind_eq_some_iff] at hz
  obtain ⟨i, hi, c, hc, hx⟩ := hz
  exact ⟨c, by simp [zeroValue, typeInfo, hi, hc], constV_ok c z hx, i, hi, hc⟩

theorem VR.cells1 {v : V} {c : Value} (hv : VR P g tok v c) (h1 : ∀ cs, v ≠ .agg cs) (h2 : v ≠ .junk) : c.cells = #[c] := by
  cases v with
  | agg cs => exact absurd rfl (h1 cs)
  | junk => exact absurd rfl h2
  | bool b => simp only [VR] at hv; subst hv; rfl
  | int k n => simp only [VR] at hv; subst hv; rfl
  | str s => simp only [VR] at hv; obtain ⟨b, rfl, _⟩ := hv; rfl
  | nilp => simp only [VR] at hv; subst hv; rfl
  | pblk b o => simp only [VR] at hv; rw [hv.1]; rfl
  | pimm cs => simp only [VR] at hv; obtain ⟨_, _, rfl, _⟩ := hv; rfl
  | pby ty cs => simp only [VR] at hv; obtain ⟨_, _, _, _, rfl, _⟩ := hv; rfl
  | sl n cs gr => simp only [VR] at hv; obtain ⟨_, _, rfl, _⟩ := hv; rfl
  | ms b o n cc e => simp only [VR] at hv; rw [hv.1]; rfl
  | fn f caps => simp only [VR] at hv; obtain ⟨_, rfl, _⟩ := hv; rfl
  | yld l => simp only [VR] at hv; rw [hv.1]; rfl
  | nilfn => simp only [VR] at hv; subst hv; rfl
  | ifc t x => simp only [VR] at hv; obtain ⟨_, rfl, _⟩ := hv; rfl
  | nilifc => simp only [VR] at hv; subst hv; rfl
  | tup vs => simp only [VR] at hv; obtain ⟨_, rfl, _⟩ := hv; rfl

theorem VR.oneCell {v : V} {c : Value} (hv : VR P g tok v c) (h1 : v.one = true) : c.oneCell' = true := by
  cases v with
  | agg cs => simp [V.one] at h1
  | junk => simp [V.one] at h1
  | tup vs => simp [V.one] at h1
  | bool b => simp only [VR] at hv; subst hv; rfl
  | int k n => simp only [VR] at hv; subst hv; rfl
  | str s => simp only [VR] at hv; obtain ⟨b, rfl, _⟩ := hv; rfl
  | nilp => simp only [VR] at hv; subst hv; rfl
  | pblk b o => simp only [VR] at hv; rw [hv.1]; rfl
  | pimm cs => simp only [VR] at hv; obtain ⟨_, _, rfl, _⟩ := hv; rfl
  | pby ty cs => simp only [VR] at hv; obtain ⟨_, _, _, _, rfl, _⟩ := hv; rfl
  | sl n cs gr => simp only [VR] at hv; obtain ⟨_, _, rfl, _⟩ := hv; rfl
  | ms b o n cc e => simp only [VR] at hv; rw [hv.1]; rfl
  | fn f caps => simp only [VR] at hv; obtain ⟨_, rfl, _⟩ := hv; rfl
  | yld l => simp only [VR] at hv; rw [hv.1]; rfl
  | nilfn => simp only [VR] at hv; subst hv; rfl
  | ifc t x => simp only [VR] at hv; obtain ⟨_, rfl, _⟩ := hv; rfl
  | nilifc => simp only [VR] at hv; subst hv; rfl

/-- A value's cells. -/
theorem VR.asCells {v : V} {c : Value} (hv : VR P g tok v c) (hj : v ≠ .junk) : LR P g tok v.asCells c.cells.toList := by
  by_cases ha : ∃ cs, v = .agg cs
  · obtain ⟨cs, rfl⟩ := ha
    simp only [VR] at hv; obtain ⟨cvs, rfl, hl⟩ := hv; simpa [V.asCells, Value.cells] using hl
  · have h1 : v.asCells = [v] := by cases v <;> first | rfl | exact absurd ⟨_, rfl⟩ ha
    rw [hv.cells1 (fun cs e => ha ⟨cs, e⟩) hj, h1]
    simp only [LR]
    exact ⟨c, [], rfl, hv, rfl⟩

-- ---------------------------------------------------------------- operands
/-- The tables of the program's own. -/
def TabOK (P : Program) (tab : Tab) (g : G) : Prop := ∀ gl cs, tab gl = some cs → CR P g [] cs gl 0

theorem Ext.retok {g' : G} {a b : Toks} (e : Ext g a g' b) (c : Toks) : Ext g [] g' c :=
  ⟨e.at_, e.blk, e.lp, e.row, fun t m ty h => by simp at h, e.dfr, e.old, e.io⟩

theorem TabOK.mono {g' : G} {a b : Toks} (e : Ext g a g' b) (ht : TabOK P tab g) : TabOK P tab g' :=
  fun gl cs hc => CR.mono (e.retok []) cs gl 0 (ht gl cs hc)

theorem TabOK.get (ht : TabOK P tab g) {gl : Nat} {cs : List V} (hc : tab gl = some cs) (tok : Toks) : CR P g tok cs gl 0 :=
  CR.mono ((Ext.refl g []).retok tok) cs gl 0 (ht gl cs hc)

theorem operand_ok (ht : TabOK P tab g) {tm : Tm} {a : Act} (hr : TR P g tok tm a.tmps) {x : Operand} {ox : O} (hx : operand tab x = some ox) : VR P g tok (ox.ev tm) (a.eval x) := by
  cases x with
  | tmp t =>
    simp only [operand] at hx; cases hx
    simp only [O.ev, Act.eval]
    cases hh : tm.has t with
    | false => rw [Tm.get_not_has _ _ hh]; simp only [VR]
    | true =>
      obtain ⟨c, hc, hv⟩ := hr t hh
      have : a.tmps.getD t undef = c := by simp [Array.getD_eq_getD_getElem?, hc]
      rw [this]; exact hv
  | const v =>
    simp only [operand, Option.map_eq_some_iff] at hx
    obtain ⟨y, hy, rfl⟩ := hx
    exact constV_ok v y hy
  | global gl =>
    simp only [operand, Option.map_eq_some_iff] at hx
    obtain ⟨cs, hc, rfl⟩ := hx
    simp only [O.ev, Act.eval, VR]
    exact ⟨gl, 0, rfl, ht.get hc tok⟩
  | func f =>
    simp only [operand] at hx; cases hx
    simp only [O.ev, Act.eval, VR]
    exact ⟨[], rfl, by simp only [LR]⟩

theorem allSome_map {α β : Type} (f : α → Option β) : ∀ (l : List α) (r : List β), allSome (l.map f) = some r → r.length = l.length ∧ ∀ (i : Nat) (x : α), l[i]? = some x → ∃ y, r[i]? = some y ∧ f x = some y
  | [], r, h => by simp only [List.map_nil, allSome] at h; cases h; exact ⟨rfl, fun i x hx => by simp at hx⟩
  | a :: l, r, h => by
    simp only [List.map_cons] at h
    cases hf : f a with
    | none => rw [hf] at h; simp [allSome] at h
    | some b =>
      rw [hf] at h
      simp only [allSome, Option.map_eq_some_iff] at h
      obtain ⟨r', hr', rfl⟩ := h
      obtain ⟨h1, h2⟩ := allSome_map f l r' hr'
      refine ⟨by simp [h1], fun i x hx => ?_⟩
      cases i with
      | zero => simp at hx; subst hx; exact ⟨b, by simp, hf⟩
      | succ i => simp at hx; simpa using h2 i x hx

theorem operands_ok (ht : TabOK P tab g) {tm : Tm} {a : Act} (hr : TR P g tok tm a.tmps) {xs : List Operand} {oxs : List O} (hx : operands tab xs = some oxs) :
    LR P g tok (oxs.map (O.ev tm)) (xs.map a.eval) := by
  obtain ⟨hl, hg⟩ := allSome_map _ _ _ hx
  refine LR.of_get (by simp [hl]) fun i v c hv hc => ?_
  simp only [List.getElem?_map, Option.map_eq_some_iff] at hv hc
  obtain ⟨o, ho, rfl⟩ := hv
  obtain ⟨x, hx', rfl⟩ := hc
  obtain ⟨y, hy, hf⟩ := hg i x hx'
  rw [ho] at hy; cases hy
  exact operand_ok ht hr hf

theorem LR.one {v : V} {cs : List Value} (hl : LR P g tok [v] cs) : ∃ c, cs = [c] ∧ VR P g tok v c := by
  simp only [LR] at hl; obtain ⟨c, cs', rfl, hv, rfl⟩ := hl; exact ⟨c, rfl, hv⟩
theorem LR.two {v u : V} {cs : List Value} (hl : LR P g tok [v, u] cs) : ∃ c d, cs = [c, d] ∧ VR P g tok v c ∧ VR P g tok u d := by
  simp only [LR] at hl; obtain ⟨c, cs', rfl, hv, d, cs'', rfl, hu, rfl⟩ := hl; exact ⟨c, d, rfl, hv, hu⟩
theorem LR.three {v u x : V} {cs : List Value} (hl : LR P g tok [v, u, x] cs) : ∃ c d e, cs = [c, d, e] ∧ VR P g tok v c ∧ VR P g tok u d ∧ VR P g tok x e := by
  simp only [LR] at hl; obtain ⟨c, cs', rfl, hv, d, cs'', rfl, hu, e, cs''', rfl, hx, rfl⟩ := hl; exact ⟨c, d, e, rfl, hv, hu, hx⟩

-- ---------------------------------------------------------------- cells in memory
/-- Cells that hold these values. -/
def CW (P : Program) (g : G) (tok : Toks) (w : World) (vs : List V) (B o : Nat) : Prop :=
  ∃ cs : List Value, LR P g tok vs cs ∧ ∀ (j : Nat) (c : Value), cs[j]? = some c → w.cell? ⟨B, o + j, none⟩ = some c

theorem R.at_cell (r : R P tab g h w) {B o : Nat} {c : Value} (hc : g.at B o = some c) : w.cell? ⟨B, o, none⟩ = some c := by
  unfold G.at at hc
  split at hc
  · rename_i arr ty fz ho
    have := r.oOld B _ ho
    cases hs : g.io.2 B o with
    | false => rw [hs] at hc; cases hc
    | true => rw [hs] at hc; simp only [cond_true] at hc; simp [World.cell?, this, hc]
  · rename_i ty f t ho
    obtain ⟨arr, fz, h1, h2⟩ := r.oRow B ty f t ho
    simp [World.cell?, h1, h2 o c hc]
  · cases hc

theorem CR.cw (r : R P tab g h w) : ∀ (vs : List V) (B o : Nat), CR P g tok vs B o → CW P g tok w vs B o
  | [], B, o, _ => ⟨[], by simp only [LR], fun j c hc => by simp at hc⟩
  | v :: vs, B, o, hv => by
    simp only [CR] at hv
    obtain ⟨⟨c, hc, h1⟩, h2⟩ := hv
    obtain ⟨cs, h3, h4⟩ := CR.cw r vs B (o + 1) h2
    refine ⟨c :: cs, by simp only [LR]; exact ⟨c, cs, rfl, h1, h3⟩, fun j d hd => ?_⟩
    cases j with
    | zero => simp at hd; subst hd; exact r.at_cell hc
    | succ j => simp at hd; have := h4 j d hd; rw [← this]; congr 2; omega

theorem R.blk_cw (r : R P tab g h w) {b o ty : Nat} {cs : List V} (hb : h.blk[b]? = some (ty, cs)) (ho : g.own (g.phi b) = .blk b) : CW P g h.tok w (cs.drop o) (g.phi b) o := by
  obtain ⟨vs, h1, h2⟩ := r.blk b ty cs hb ho
  refine ⟨vs.drop o, h2.drop o, fun j c hc => ?_⟩
  rw [List.getElem?_drop] at hc
  simp [World.cell?, h1, hc]

theorem CW.take {vs : List V} {B o : Nat} (hc : CW P g tok w vs B o) (n : Nat) : CW P g tok w (vs.take n) B o := by
  obtain ⟨cs, h1, h2⟩ := hc
  refine ⟨cs.take n, h1.take n, fun j c hj => ?_⟩
  rw [List.getElem?_take] at hj
  split at hj
  · exact h2 j c hj
  · cases hj

theorem cells_ok (r : R P tab g h w) {p : V} {cp : Value} {cs : List V} (hp : VR P g h.tok p cp) (hc : p.cells h = some cs) :
    ∃ B o, cp = .pointer (some ⟨B, o, none⟩) ∧ CW P g h.tok w cs B o := by
  cases p with
  | pblk b o =>
    simp only [V.cells, Option.bind_eq_some_iff] at hc
    obtain ⟨⟨ty, cs0⟩, hb, hc⟩ := hc
    split at hc
    · cases hc
      simp only [VR] at hp
      exact ⟨_, _, hp.1, r.blk_cw hb hp.2⟩
    · cases hc
  | pimm cs0 =>
    simp only [V.cells] at hc; cases hc
    simp only [VR] at hp
    obtain ⟨B, o, h1, h2⟩ := hp
    exact ⟨B, o, h1, CR.cw r cs B o h2⟩
  | _ => simp [V.cells] at hc

theorem elems_ok (r : R P tab g h w) {x : V} {cx : Value} {n : Nat} {cs : List V} (hx : VR P g h.tok x cx) (hc : x.elems h = some (n, cs)) :
    ∃ a c, cx = .slice a n c ∧ n ≤ c ∧ (cs = [] ∨ ∃ B o, a = some ⟨B, o, none⟩ ∧ CW P g h.tok w cs B o) := by
  cases x with
  | sl m cs0 gr =>
    simp only [V.elems, Option.some.injEq, Prod.mk.injEq] at hc
    obtain ⟨rfl, rfl⟩ := hc
    simp only [VR] at hx
    obtain ⟨a, c, h1, h2, h3, _⟩ := hx
    refine ⟨a, c, h1, h3.1, ?_⟩
    rcases h2 with h2 | ⟨B, o, ha, h2⟩
    · exact .inl h2
    · exact .inr ⟨B, o, ha, CR.cw r _ B o h2⟩
  | ms b o m c e =>
    simp only [V.elems, Option.bind_eq_some_iff] at hc
    obtain ⟨⟨ty, cs0⟩, hb, hc⟩ := hc
    split at hc
    · simp only [Option.some.injEq, Prod.mk.injEq] at hc
      obtain ⟨rfl, rfl⟩ := hc
      simp only [VR] at hx
      exact ⟨_, c, hx.1, hx.2.1, .inr ⟨_, o, rfl, (r.blk_cw hb hx.2.2).take _⟩⟩
    · cases hc
  | _ => simp [V.elems] at hc

theorem addr_add (B o j : Nat) : (⟨B, o, none⟩ : Addr).add j = ⟨B, o + j, none⟩ := by
  unfold Addr.add; split
  · rename_i hj; simp [hj]
  · rfl

theorem run_loadCells_cw {cs : List Value} {B o : Nat} (hc : ∀ (j : Nat) (c : Value), cs[j]? = some c → w.cell? ⟨B, o + j, none⟩ = some c) :
    (loadCells ⟨B, o, none⟩ cs.length).run P w = .ok cs.toArray w :=
  run_loadCells_list w _ cs fun j v hv => by rw [addr_add]; exact hc j v hv

end

end Go.Sim

/- One operation of the evaluator's is one of the machine's: those that make or read values. Conditions: none. -/
set_option linter.unusedSimpArgs false
set_option linter.unusedVariables false
namespace Go.Sim

/-- A function value and its operands, and what the machine makes of them. -/
def DfR (P : Program) (g : G) (tok : Toks) (f : V) (vs : List V) (d : Deferred) : Prop :=
  ∃ cargs : List Value, LR P g tok vs cargs ∧ d.args = cargs.toArray ∧
    match f with
    | .fn id caps => ∃ ccaps : List Value, LR P g tok caps ccaps ∧ d.target = .fn (.func id) ccaps.toArray
    | .yld l => d.target = .fn (.yield (g.lp l)) #[] ∧ g.own (g.lp l) = .lp l
    | _ => False

def OpOut (P : Program) (tab : Tab) (g : G) (h : H) (w : World) (n0 : Nat) (r : Rs) (h1 : H) (res : Result Next) : Prop :=
  match r with
  | .val v => ∃ c w1 g1, res = .ok (.value c) w1 ∧ R P tab g1 h1 w1 ∧ Keeps n0 g h g1 h1 [] [] ∧ VR P g1 h1.tok v c
  | .done es et => ∃ w1 g1, res = .ok .skip w1 ∧ R P tab g1 h1 w1 ∧ Keeps n0 g h g1 h1 es et
  | .pan v => ∃ c, res = .halt (.panic c) w ∧ VR P g h.tok v c ∧ h1 = h
  | .dfr f vs => ∃ d, res = .ok (.defer d) w ∧ DfR P g h.tok f vs d ∧ h1 = h ∧ ∃ id caps, f = .fn id caps
  | .recov => res = .ok .recover w ∧ h1 = h
  | .call f vs => ∃ d, res = (invoke d.target d.args).run P w ∧ DfR P g h.tok f vs d ∧ h1 = h

/-- A value's making, lifted to an operation. -/
def liftV (s : Sem Value) : Sem Next := do pure (.value (← s))

section
variable {P : Program} {tab : Tab} {g : G} {h : H} {w : World} {n0 : Nat}

theorem liftV_ok {s : Sem Value} {c : Value} {w1 : World} (hs : s.run P w = .ok c w1) : (liftV s).run P w = .ok (.value c) w1 := by
  simp [liftV, hs]

/-- An operation that leaves the memory as it is. -/
theorem out_val (r : R P tab g h w) {s : Sem Value} {c : Value} {v : V} (hs : s.run P w = .ok c w) (hv : VR P g h.tok v c) : OpOut P tab g h w n0 (.val v) h ((liftV s).run P w) :=
  ⟨c, w, g, liftV_ok hs, r, Keeps.refl n0 g h, hv⟩

theorem val_out (r : R P tab g h w) {s : Sem Value} {c : Value} {v : V} {rs : Rs} {h1 : H} (he : val h v = some (rs, h1)) (hs : s.run P w = .ok c w) (hv : VR P g h.tok v c) :
    OpOut P tab g h w n0 rs h1 ((liftV s).run P w) := by
  simp only [val, Option.some.injEq, Prod.mk.injEq] at he
  obtain ⟨rfl, rfl⟩ := he
  exact out_val r hs hv

theorem valO_some {ov : Option V} {rs : Rs} {h1 : H} (he : valO h ov = some (rs, h1)) : ∃ v, ov = some v ∧ rs = .val v ∧ h1 = h := by
  unfold valO at he
  split at he
  · rename_i v; simp only [Option.some.injEq, Prod.mk.injEq] at he; exact ⟨v, rfl, he.1.symm, he.2.symm⟩
  · cases he

-- ---------------------------------------------------------------- numbers, texts
theorem natsOf_inj {a b : ByteArray} (hab : natsOf a = natsOf b) : a = b := by
  unfold natsOf at hab
  have : a.data.toList = b.data.toList := by
    have inj : Function.Injective (fun u : UInt8 => u.toNat) := fun x y hxy => UInt8.toNat_inj.1 hxy
    exact (List.map_inj_right inj).1 hab
  cases a; cases b; simp at this ⊢; exact this

theorem natsOf_beq (a b : ByteArray) : (natsOf a == natsOf b) = (a.toList == b.toList) := by
  rw [ByteArray.toList_eq, ByteArray.toList_eq, Bool.eq_iff_iff, beq_iff_eq, beq_iff_eq]
  constructor
  · intro hh; rw [natsOf_inj hh]
  · intro hh; simp [natsOf, hh]

theorem natsOf_length (a : ByteArray) : (natsOf a).length = a.size := by
  unfold natsOf; rw [List.length_map]; rfl

theorem strLess_eq : ∀ (a b : List UInt8), strLess (a.map (·.toNat)) (b.map (·.toNat)) = Op.bytesLess a b
  | [], [] => rfl
  | _ :: _, [] => rfl
  | [], _ :: _ => rfl
  | x :: a, y :: b => by
    have h1 : (x.toNat == y.toNat) = (x == y) := by rw [Bool.eq_iff_iff, beq_iff_eq, beq_iff_eq, UInt8.toNat_inj]
    rw [List.map_cons, List.map_cons, strLess, Op.bytesLess, strLess_eq a b, h1]; rfl

theorem strLess_nats (a b : ByteArray) : strLess (natsOf a) (natsOf b) = Op.bytesLess a.toList b.toList := by
  rw [ByteArray.toList_eq, ByteArray.toList_eq]; exact strLess_eq _ _

theorem natsOf_append (a b : ByteArray) : natsOf (a ++ b) = natsOf a ++ natsOf b := by
  simp [natsOf, ByteArray.data_append]

theorem cmpI_ok {op : BinOp} {a b : Int} {v : V} (hc : cmpI op a b = some v) (w : World) : ∃ c, (Op.intCmp op a b).run P w = .ok c w ∧ ∀ g tok, VR P g tok v c := by
  cases op <;> simp only [cmpI, Option.some.injEq] at hc <;> first
    | cases hc; done
    | (subst hc; refine ⟨_, rfl, fun g tok => ?_⟩; simp only [VR]; congr 1; rw [eqI_eq]; done)
    | (subst hc; refine ⟨_, rfl, fun g tok => ?_⟩; simp only [VR]; congr 1; rw [eqI_eq]; rfl)
    | (subst hc; refine ⟨_, rfl, fun g tok => ?_⟩; simp only [VR]; congr 1; rw [ltI_eq]; done)
    | (subst hc; refine ⟨_, rfl, fun g tok => ?_⟩; simp only [VR]; congr 1; rw [ltI_eq, Bool.eq_iff_iff]; simp <;> omega)

theorem binI_ok {op : BinOp} {k : IntKind} {a b : Int} {v : V} (hv : binI op k a b = some v) (hs : op ≠ .shl ∧ op ≠ .shr) (t : TypeId) (w : World) :
    ∃ c, (binOp op t (.int k a) (.int k b)).run P w = .ok c w ∧ ∀ g tok, VR P g tok v c := by
  cases op with
  | shl => exact absurd rfl hs.1
  | shr => exact absurd rfl hs.2
  | add => simp only [binI, intV_eq, Option.some.injEq] at hv; subst hv; exact ⟨_, by simp only [binOp, ne_eq, not_true_eq_false, if_false, Op.intArith]; rfl, fun g tok => by simp only [VR, wr_eq]⟩
  | sub => simp only [binI, intV_eq, Option.some.injEq] at hv; subst hv; exact ⟨_, by simp only [binOp, ne_eq, not_true_eq_false, if_false, Op.intArith]; rfl, fun g tok => by simp only [VR, wr_eq]⟩
  | mul => simp only [binI, intV_eq, Option.some.injEq] at hv; subst hv; exact ⟨_, by simp only [binOp, ne_eq, not_true_eq_false, if_false, Op.intArith]; rfl, fun g tok => by simp only [VR, wr_eq]⟩
  | quo =>
    simp only [binI, eqI_eq, intV_eq] at hv
    split at hv
    · cases hv
    · rename_i hb
      simp only [Option.some.injEq] at hv; subst hv
      have hb' : b ≠ 0 := by simpa using hb
      exact ⟨_, by simp only [binOp, ne_eq, not_true_eq_false, if_false, Op.intDiv, hb']; rfl, fun g tok => by simp only [VR, wr_eq]⟩
  | rem =>
    simp only [binI, eqI_eq, intV_eq] at hv
    split at hv
    · cases hv
    · rename_i hb
      simp only [Option.some.injEq] at hv; subst hv
      have hb' : b ≠ 0 := by simpa using hb
      exact ⟨_, by simp only [binOp, ne_eq, not_true_eq_false, if_false, Op.intDiv, hb']; rfl, fun g tok => by simp only [VR]⟩
  | and => simp only [binI, intV_eq, Option.some.injEq] at hv; subst hv; exact ⟨_, by simp only [binOp, ne_eq, not_true_eq_false, if_false, Op.intBits]; rfl, fun g tok => by simp only [VR, and_eq]⟩
  | or => simp only [binI, intV_eq, Option.some.injEq] at hv; subst hv; exact ⟨_, by simp only [binOp, ne_eq, not_true_eq_false, if_false, Op.intBits]; rfl, fun g tok => by simp only [VR, or_eq]⟩
  | xor => simp only [binI, intV_eq, Option.some.injEq] at hv; subst hv; exact ⟨_, by simp only [binOp, ne_eq, not_true_eq_false, if_false, Op.intBits]; rfl, fun g tok => by simp only [VR, xor_eq]⟩
  | andNot => simp only [binI, intV_eq, Option.some.injEq] at hv; subst hv; exact ⟨_, by simp only [binOp, ne_eq, not_true_eq_false, if_false, Op.intBits]; rfl, fun g tok => by simp only [VR, andNot_eq]⟩
  | eql | neq | lss | leq | gtr | geq =>
    simp only [binI] at hv
    obtain ⟨c, h1, h2⟩ := cmpI_ok (P := P) hv w
    exact ⟨c, by simp only [binOp, ne_eq, not_true_eq_false, if_false]; exact h1, h2⟩

theorem shI_ok {op : BinOp} {k j : IntKind} {a b : Int} {v : V} (hv : shI op k a b = some v) (t : TypeId) (w : World) :
    ∃ c, (binOp op t (.int k a) (.int j b)).run P w = .ok c w ∧ ∀ g tok, VR P g tok v c := by
  cases b with
  | negSucc n => simp [shI] at hv
  | ofNat n =>
    have h0 : ¬ (Int.ofNat n < 0) := by simp
    cases op <;> simp only [shI, intV_eq] at hv <;> first
      | cases hv; done
      | skip
    · simp only [Option.some.injEq] at hv; subst hv
      refine ⟨_, by simp only [binOp, Op.shift, h0, if_false]; rfl, fun g tok => ?_⟩
      simp only [VR, wr_eq, bitsK_eq]
      rfl
    · simp only [Option.some.injEq] at hv; subst hv
      refine ⟨_, by simp only [binOp, Op.shift, h0, if_false]; rfl, fun g tok => ?_⟩
      simp only [VR, bitsK_eq]
      rfl

theorem binS_ok {op : BinOp} {a b : ByteArray} {v : V} (hv : binS op (natsOf a) (natsOf b) = some v) (t : TypeId) (w : World) :
    ∃ c, (binOp op t (.string a) (.string b)).run P w = .ok c w ∧ ∀ g tok, VR P g tok v c := by
  have hrun : ∀ op, binOp op t (.string a) (.string b) = Op.stringOp op a b := fun op => by cases op <;> rfl
  rw [hrun]
  cases op <;> simp only [binS, natsOf_length, natsOf_beq, strLess_nats] at hv <;> first
    | cases hv; done
    | (simp only [Option.some.injEq] at hv; subst hv; exact ⟨_, rfl, fun g tok => by simp only [VR]⟩)
    | skip
  split at hv
  · rename_i hl
    simp only [Option.some.injEq] at hv; subst hv
    have : ¬ ((a.size + b.size : Nat) : Int) > IntKind.i64.max := by
      simp only [roomMost] at hl
      simp [IntKind.max, IntKind.signed, IntKind.bits]; omega
    refine ⟨.string (a ++ b), by simp only [Op.stringOp, this, if_false]; rfl, fun g tok => ?_⟩
    simp only [VR]
    exact ⟨a ++ b, rfl, (natsOf_append a b).symm⟩
  · cases hv

theorem unV_ok {op : UnOp} {x : V} {cx : Value} {v : V} {tok : Toks} (hv : unV op x = some v) (hx : VR P g tok x cx) (w : World) : ∃ c, (Op.unary op cx).run P w = .ok c w ∧ VR P g tok v c := by
  cases op <;> cases x <;> simp only [unV, intV_eq] at hv <;> first
    | cases hv; done
    | (simp only [Option.some.injEq] at hv; subst hv; simp only [VR] at hx; subst hx
       exact ⟨_, rfl, by first | (simp only [VR]; done) | (simp only [VR, wr_eq]; done) | (simp only [VR, xorAll_eq]; done)⟩)
end

end Go.Sim

/- One operation of the evaluator's is one of the machine's: those that leave the memory as it is. Conditions: none. -/
set_option linter.unusedSimpArgs false
set_option linter.unusedVariables false
namespace Go.Sim

section
variable {P : Program} {tab : Tab} {g : G} {h : H} {w : World} {n0 : Nat} {tok : Toks}

theorem LR.inv0 {vs : List V} (hl : LR P g tok vs []) : vs = [] := by
  have := hl.length; simpa using this
theorem LR.inv1 {vs : List V} {c : Value} (hl : LR P g tok vs [c]) : ∃ v, vs = [v] ∧ VR P g tok v c := by
  cases vs with
  | nil => simp only [LR] at hl; cases hl
  | cons v vs =>
    simp only [LR] at hl
    obtain ⟨c', cs, he, hv, hl⟩ := hl
    cases he
    rw [hl.inv0]
    exact ⟨v, rfl, hv⟩
theorem LR.invc {vs : List V} {c : Value} {cs : List Value} (hl : LR P g tok vs (c :: cs)) : ∃ v us, vs = v :: us ∧ VR P g tok v c ∧ LR P g tok us cs := by
  cases vs with
  | nil => simp only [LR] at hl; cases hl
  | cons v vs =>
    simp only [LR] at hl
    obtain ⟨c', cs', he, hv, hl⟩ := hl
    cases he
    exact ⟨v, vs, rfl, hv, hl⟩
theorem LR.inv2 {vs : List V} {c d : Value} (hl : LR P g tok vs [c, d]) : ∃ v u, vs = [v, u] ∧ VR P g tok v c ∧ VR P g tok u d := by
  obtain ⟨v, us, rfl, hv, hl⟩ := hl.invc
  obtain ⟨u, rfl, hu⟩ := hl.inv1
  exact ⟨v, u, rfl, hv, hu⟩
theorem LR.inv3 {vs : List V} {c d e : Value} (hl : LR P g tok vs [c, d, e]) : ∃ v u x, vs = [v, u, x] ∧ VR P g tok v c ∧ VR P g tok u d ∧ VR P g tok x e := by
  obtain ⟨v, us, rfl, hv, hl⟩ := hl.invc
  obtain ⟨u, x, rfl, hu, hx⟩ := hl.inv2
  exact ⟨v, u, x, rfl, hv, hu, hx⟩

theorem vout (r : R P tab g h w) {v : V} {c : Value} {rs : Rs} {h1 : H} {res : Result Next} (he : val h v = some (rs, h1)) (hres : res = .ok (.value c) w) (hv : VR P g h.tok v c) :
    OpOut P tab g h w n0 rs h1 res := by
  simp only [val, Option.some.injEq, Prod.mk.injEq] at he
  obtain ⟨rfl, rfl⟩ := he
  exact ⟨c, w, g, hres, r, Keeps.refl n0 g h, hv⟩

theorem voutO (r : R P tab g h w) {ov : Option V} {rs : Rs} {h1 : H} {res : Result Next} (he : valO h ov = some (rs, h1))
    (hres : ∀ v, ov = some v → ∃ c, res = .ok (.value c) w ∧ VR P g h.tok v c) : OpOut P tab g h w n0 rs h1 res := by
  obtain ⟨v, hv, rfl, rfl⟩ := valO_some he
  obtain ⟨c, h1, h2⟩ := hres v hv
  exact ⟨c, w, g, h1, r, Keeps.refl n0 g _, h2⟩

theorem boolOf_some {v : V} {b : Bool} (hb : boolOf v = some b) : v = .bool b := by
  cases v <;> simp [boolOf] at hb; rw [hb]
theorem natOf_some {v : V} {n : Nat} (hb : natOf v = some n) : ∃ k, v = .int k (n : Int) := by
  cases v with
  | int k m => cases m with
    | ofNat m => simp [natOf] at hb; exact ⟨k, by rw [hb]; rfl⟩
    | negSucc m => simp [natOf] at hb
  | _ => simp [natOf] at hb

theorem VR.ptr_cases {v : V} {c : Value} (hv : VR P g tok v c) : True := trivial

-- ---------------------------------------------------------------- moves
theorem mov_ok (r : R P tab g h w) {vs : List V} {c : Value} (hl : LR P g h.tok vs [c]) {rs : Rs} {h1 : H} (he : exMov h vs = some (rs, h1)) :
    OpOut P tab g h w n0 rs h1 ((pure (.value c) : Sem Next).run P w) := by
  obtain ⟨v, rfl, hv⟩ := hl.inv1
  exact vout r he rfl hv

theorem pick_ok (r : R P tab g h w) {vs : List V} {c a b : Value} (hl : LR P g h.tok vs [c, a, b]) {rs : Rs} {h1 : H} (he : exPick h vs = some (rs, h1)) :
    OpOut P tab g h w n0 rs h1 ((do pure (.value (if ← asBool c then a else b)) : Sem Next).run P w) := by
  obtain ⟨vc, va, vb, rfl, hc, ha, hb⟩ := hl.inv3
  simp only [exPick] at he
  split at he
  · rename_i hbo
    have := boolOf_some hbo; subst this
    simp only [VR] at hc; subst hc
    exact vout r he (by simp [asBool]) ha
  · rename_i hbo
    have := boolOf_some hbo; subst this
    simp only [VR] at hc; subst hc
    exact vout r he (by simp [asBool]) hb
  · cases he

theorem nilc_ok (r : R P tab g h w) {vs : List V} {c : Value} (hl : LR P g h.tok vs [c]) {rs : Rs} {h1 : H} (he : exNilc h vs = some (rs, h1)) {ρ : Operand → Value} {o : Oper} {x : Operand}
    (ho : o.op = .nilCheck x) (hx : ρ x = c) : OpOut P tab g h w n0 rs h1 ((execOp ρ o).run P w) := by
  obtain ⟨v, rfl, hv⟩ := hl.inv1
  have key : ∀ a, c = .pointer (some a) → (execOp ρ o).run P w = .ok (.value c) w := by
    intro a hc
    unfold execOp
    simp only [ho, hx, hc]
    rfl
  cases v <;> simp only [exNilc] at he <;> first
    | cases he; done
    | skip
  · refine vout r he ?_ hv
    simp only [VR] at hv
    exact key _ hv.1
  · refine vout r he ?_ hv
    simp only [VR] at hv
    obtain ⟨B, o, h1, _⟩ := hv
    exact key _ h1

theorem mkI_ok (r : R P tab g h w) {vs : List V} {c : Value} (hl : LR P g h.tok vs [c]) {rs : Rs} {h1 : H} {t : Nat} (he : exMkI t h vs = some (rs, h1))
    {d : TypeDesc} (hd : P.underlying t = some d) (hn : ∀ ms, d ≠ .interface ms) : OpOut P tab g h w n0 rs h1 ((liftV (Instr.makeInterface t c)).run P w) := by
  obtain ⟨v, rfl, hv⟩ := hl.inv1
  refine vout r he (c := .iface t c) (liftV_ok ?_) (by simp only [VR]; exact ⟨c, rfl, hv⟩)
  unfold Instr.makeInterface
  simp only [Sem.run_bind, run_underlying hd, Result.andThen_ok]
  cases d <;> first | exact absurd rfl (hn _) | rfl

theorem mkF_ok (r : R P tab g h w) {vs : List V} {cs : List Value} (hl : LR P g h.tok vs cs) {rs : Rs} {h1 : H} {f : Nat} (he : val h (.fn f vs) = some (rs, h1)) :
    OpOut P tab g h w n0 rs h1 ((liftV (Instr.makeFunc (.func f) #[] cs.toArray)).run P w) :=
  vout r he (liftV_ok rfl) (by simp only [VR]; exact ⟨cs, rfl, hl⟩)

theorem ext_ok (r : R P tab g h w) {vs : List V} {c : Value} (hl : LR P g h.tok vs [c]) {rs : Rs} {h1 : H} {i : Nat} (he : exExt i h vs = some (rs, h1)) :
    OpOut P tab g h w n0 rs h1 ((liftV (Instr.extract c i)).run P w) := by
  obtain ⟨v, rfl, hv⟩ := hl.inv1
  cases v <;> simp only [exExt] at he <;> first
    | cases he; done
    | skip
  rename_i xs
  refine voutO r he fun v hv' => ?_
  simp only [VR] at hv
  obtain ⟨cvs, rfl, hl'⟩ := hv
  obtain ⟨d, hd, hvd⟩ := hl'.get hv'
  refine ⟨d, liftV_ok ?_, hvd⟩
  simp [Instr.extract, hd]

theorem asrt_ok (r : R P tab g h w) {vs : List V} {c : Value} (hl : LR P g h.tok vs [c]) {rs : Rs} {h1 : H} {t xt : Nat} {z : V} {ok : Bool} (he : exAsrt t z ok h vs = some (rs, h1))
    {d : TypeDesc} (hd : P.underlying t = some d) (hn : ∀ ms, d ≠ .interface ms) (hz : zeroOf P t = some z) : OpOut P tab g h w n0 rs h1 ((liftV (Instr.typeAssert c xt t ok)).run P w) := by
  obtain ⟨v, rfl, hv⟩ := hl.inv1
  obtain ⟨zc, hzr, hzv, _⟩ := run_zero (g := g) (tok := h.tok) hz w
  have hfail : VR P g h.tok (.tup [z, .bool false]) (.tuple #[zc, .bool false]) := by
    simp only [VR, LR]; exact ⟨[zc, .bool false], rfl, zc, [.bool false], rfl, hzv, .bool false, [], rfl, rfl, rfl⟩
  cases v <;> simp only [exAsrt] at he <;> first
    | cases he; done
    | skip
  · rename_i u x
    simp only [VR] at hv
    obtain ⟨y, rfl, hxy⟩ := hv
    split at he
    · rename_i hut; subst hut
      refine vout r he (c := if ok then .tuple #[y, .bool true] else y) (liftV_ok ?_) ?_
      · unfold Instr.typeAssert
        simp only [Sem.run_bind, run_underlying hd, Result.andThen_ok]
        cases d <;> first | exact absurd rfl (hn _) | simp
      · cases ok
        · simpa using hxy
        · simp only [if_true, VR, LR]; exact ⟨[y, .bool true], rfl, y, [.bool true], rfl, hxy, .bool true, [], rfl, rfl, rfl⟩
    · rename_i hut
      split at he
      · rename_i hok; subst hok
        refine vout r he (c := .tuple #[zc, .bool false]) (liftV_ok ?_) hfail
        unfold Instr.typeAssert
        simp only [Sem.run_bind, run_underlying hd, Result.andThen_ok]
        cases d <;> first | exact absurd rfl (hn _) | simp [hut, hzr]
      · cases he
  · simp only [VR] at hv; subst hv
    split at he
    · rename_i hok; subst hok
      refine vout r he (c := .tuple #[zc, .bool false]) (liftV_ok ?_) hfail
      unfold Instr.typeAssert
      simp only [Sem.run_bind, run_underlying hd, Result.andThen_ok]
      cases d <;> first | exact absurd rfl (hn _) | simp [hzr]
    · cases he

theorem len_ok (r : R P tab g h w) {vs : List V} {c : Value} (hl : LR P g h.tok vs [c]) {rs : Rs} {h1 : H} {str : Bool} (he : exLen str h vs = some (rs, h1)) {ts : Array Nat} {ty t : Nat} (ht : ts[0]? = some t)
    (hu : if str then P.underlying t = some .string else ∃ e, P.underlying t = some (.slice e)) : OpOut P tab g h w n0 rs h1 ((liftV (Builtin.len_ ts ty #[c])).run P w) := by
  obtain ⟨v, rfl, hv⟩ := hl.inv1
  cases v <;> simp only [exLen] at he <;> first
    | cases he; done
    | skip
  all_goals
    cases str <;> simp only [if_true, if_false, Bool.false_eq_true] at he hu <;> first
      | cases he; done
      | skip
    refine voutO r he fun v hv' => ?_
    rw [intV_eq] at hv'; cases hv'
    simp only [VR] at hv
  · obtain ⟨b, rfl, rfl⟩ := hv
    rw [natsOf_length]
    refine ⟨goInt b.size, liftV_ok ?_, by simp only [VR]; rfl⟩
    simp [Builtin.len_, ht, run_underlying hu]
  · rename_i n cs gr
    obtain ⟨a, k, rfl, _⟩ := hv
    obtain ⟨e, hu⟩ := hu
    refine ⟨goInt n, liftV_ok ?_, by simp only [VR]; rfl⟩
    simp [Builtin.len_, ht, run_underlying hu]
  · rename_i b o n k e'
    obtain ⟨rfl, _⟩ := hv
    obtain ⟨e, hu⟩ := hu
    refine ⟨goInt n, liftV_ok ?_, by simp only [VR]; rfl⟩
    simp [Builtin.len_, ht, run_underlying hu]

theorem cap_ok (r : R P tab g h w) {vs : List V} {c : Value} (hl : LR P g h.tok vs [c]) {rs : Rs} {h1 : H} (he : exCap h vs = some (rs, h1)) {ts : Array Nat} {ty t e : Nat} (ht : ts[0]? = some t)
    (hu : P.underlying t = some (.slice e)) : OpOut P tab g h w n0 rs h1 ((liftV (Builtin.cap_ ts ty #[c])).run P w) := by
  obtain ⟨v, rfl, hv⟩ := hl.inv1
  cases v <;> simp only [exCap] at he <;> first
    | cases he; done
    | skip
  · rename_i n cs gr
    cases gr <;> simp only [exCap] at he <;> first
      | cases he; done
      | skip
    · simp only [VR, GrR] at hv
      obtain ⟨a, k, rfl, _, _, hk⟩ := hv
      exact vout r he (liftV_ok (c := goInt n) (by simp [Builtin.cap_, ht, run_underlying hu, hk])) (by simp only [VR]; rfl)
    · simp only [VR, GrR] at hv
      obtain ⟨a, k, rfl, _, _, rfl, rfl⟩ := hv
      exact vout r he (liftV_ok (c := goInt 0) (by simp [Builtin.cap_, ht, run_underlying hu])) (by simp only [VR]; rfl)
  · rename_i b o n k e'
    simp only [VR] at hv
    obtain ⟨rfl, _⟩ := hv
    exact vout r he (liftV_ok (c := goInt k) (by simp [Builtin.cap_, ht, run_underlying hu])) (by simp only [VR]; rfl)

theorem same_ok (r : R P tab g h w) {vs : List V} {c : Value} (hl : LR P g h.tok vs [c]) {rs : Rs} {h1 : H} (he : exSame h vs = some (rs, h1)) {src dst : Nat}
    (hs : P.underlying src = some .string) (hd : P.underlying dst = some .string) : OpOut P tab g h w n0 rs h1 ((liftV (convert src dst c)).run P w) := by
  obtain ⟨v, rfl, hv⟩ := hl.inv1
  cases v <;> simp only [exSame] at he <;> first
    | cases he; done
    | skip
  refine vout r he (c := c) (liftV_ok ?_) hv
  simp only [VR] at hv
  obtain ⟨b, rfl, _⟩ := hv
  unfold convert
  simp only [Sem.run_bind, run_underlying hs, run_underlying hd, Result.andThen_ok]
  rfl

theorem toInt_ok (r : R P tab g h w) {vs : List V} {c : Value} (hl : LR P g h.tok vs [c]) {rs : Rs} {h1 : H} {k : IntKind} (he : exToInt k h vs = some (rs, h1)) {src dst : Nat} {d : TypeDesc}
    (hs : P.underlying src = some d) (hd : P.underlying dst = some (.int k)) : OpOut P tab g h w n0 rs h1 ((liftV (convert src dst c)).run P w) := by
  obtain ⟨v, rfl, hv⟩ := hl.inv1
  cases v <;> simp only [exToInt] at he <;> first
    | cases he; done
    | skip
  rename_i j n
  simp only [VR] at hv; subst hv
  refine voutO r he fun v hv => ?_
  rw [intV_eq] at hv; cases hv
  refine ⟨_, liftV_ok (c := .int k (k.wrap n)) ?_, by simp only [VR, wr_eq]⟩
  unfold convert
  simp only [Sem.run_bind, run_underlying hs, run_underlying hd, Result.andThen_ok]
  cases d <;> rfl
end

end Go.Sim

/- One operation of the evaluator's is one of the machine's: comparisons, numbers, places. Conditions: none. -/
set_option linter.unusedSimpArgs false
set_option linter.unusedVariables false
namespace Go.Sim

section
variable {P : Program} {tab : Tab} {g : G} {h : H} {w : World} {n0 : Nat} {tok : Toks}

theorem eqGuard_ok {op : BinOp} {t : TypeId} {x y : Operand} {a b : Value} (h1 : ¬ (a = .nilIface ∧ b = .nilIface)) (h2 : ∀ cs, a ≠ .agg cs) (w : World) :
    (eqGuard op t x y a b).run P w = .ok () w := by
  unfold eqGuard
  cases op <;> first
    | rfl
    | (simp only [Bool.not_true, Bool.false_eq_true, if_false]
       split
       · exact absurd ⟨rfl, rfl⟩ h1
       · exact absurd rfl (h2 _)
       · rfl)

theorem isBool {t : Nat} {a b : Bool} (ht : P.underlying t = some .bool) (w : World) : (Op.equal t (.bool a) (.bool b)).run P w = .ok (a == b) w := run_equal_bool w t a b ht

theorem eqPtr_none {t e : Nat} (ht : P.underlying t = some (.pointer e)) (a b : Option Addr) (hab : a = none ∨ b = none) (w : World) :
    (Op.equal t (.pointer a) (.pointer b)).run P w = .ok (a.isNone && b.isNone) w := by
  have : ∀ d : Nat, (Op.equalIn (d + 1) t (.pointer a) (.pointer b)).run P w = .ok (a.isNone && b.isNone) w := fun d => by
    cases a <;> cases b <;> simp [Op.equalIn, run_underlying ht] at hab ⊢
  exact this 9999

theorem eqPtr_some {t e n : Nat} (ht : P.underlying t = some (.pointer e)) (hn : sizeB P e = some (n + 1)) (a b : Addr) {x : Bool} (w : World) (hs : (sameAddr a b).run P w = .ok x w) :
    (Op.equal t (.pointer (some a)) (.pointer (some b))).run P w = .ok x w := by
  have : ∀ d : Nat, (Op.equalIn (d + 1) t (.pointer (some a)) (.pointer (some b))).run P w = .ok x w := fun d => by
    simp [Op.equalIn, run_underlying ht, run_size hn, hs]
  exact this 9999

theorem eqIfc {t : Nat} {ms : Array (String × TypeId)} (ht : P.underlying t = some (.interface ms)) (u : Nat) (x : Value) (w : World) :
    (Op.equal t .nilIface (.iface u x)).run P w = .ok false w ∧ (Op.equal t (.iface u x) .nilIface).run P w = .ok false w := by
  have : ∀ d : Nat, (Op.equalIn (d + 1) t .nilIface (.iface u x)).run P w = .ok false w ∧ (Op.equalIn (d + 1) t (.iface u x) .nilIface).run P w = .ok false w := fun d => by
    constructor <;> simp [Op.equalIn, run_underlying ht]
  exact this 9999

theorem eqSl {t e : Nat} (ht : P.underlying t = some (.slice e)) (a : Option Addr) (n c m k : Nat) (w : World) :
    (Op.equal t (.slice a n c) (.slice none m k)).run P w = .ok a.isNone w := by
  have : ∀ d : Nat, (Op.equalIn (d + 1) t (.slice a n c) (.slice none m k)).run P w = .ok a.isNone w := fun d => by
    cases a <;> simp [Op.equalIn, run_underlying ht]
  exact this 9999

/-- What the kind asks of the type. -/
def KdOK (P : Program) (t : Nat) : Kd → Prop
  | .bool => P.underlying t = some .bool
  | .ptr => ∃ e n, P.underlying t = some (.pointer e) ∧ sizeB P e = some (n + 1)
  | .ifc => ∃ ms, P.underlying t = some (.interface ms)
  | .sl => ∃ e, P.underlying t = some (.slice e)
  | .none => True

theorem R.at_blk (r : R P tab g h w) {b : Nat} (ho : g.own (g.phi b) = .blk b) : ∃ (vs : List Value) (ty : Nat), w.heap[g.phi b]? = some (.cells vs.toArray ty (0, 0)) := by
  obtain ⟨hb, _⟩ := r.oBlk _ _ ho
  obtain ⟨vs, hv, _⟩ := r.blk b _ _ (List.getElem?_eq_getElem hb) ho
  exact ⟨vs, _, hv⟩

theorem eqV_ok (r : R P tab g h w) {kd : Kd} {t : Nat} (hk : KdOK P t kd) {x y : V} {b : Bool} (he : eqV kd x y = some b) {cx cy : Value} (hx : VR P g h.tok x cx) (hy : VR P g h.tok y cy) :
    (Op.equal t cx cy).run P w = .ok b w ∧ ¬ (cx = .nilIface ∧ cy = .nilIface) ∧ (∀ cs, cx ≠ .agg cs) ∧
      (∀ op, binOp op t cx cy = (match op with | .eql => (do pure (.bool (← Op.equal t cx cy))) | .neq => (do pure (.bool (!(← Op.equal t cx cy)))) | op => binOp op t cx cy)) := by
  unfold eqV at he
  split at he <;> simp only [Option.some.injEq, reduceCtorEq] at he <;> first
    | cases he; done
    | skip
  all_goals simp only [VR] at hx hy
  · subst hx hy he
    exact ⟨isBool hk w, by simp, by simp, fun op => by cases op <;> rfl⟩
  · subst hx hy he
    obtain ⟨e, n, hk, hn⟩ := hk
    exact ⟨eqPtr_none hk _ _ (.inl rfl) w, by simp, by simp, fun op => by cases op <;> rfl⟩
  · obtain ⟨rfl, _⟩ := hy
    subst hx he
    obtain ⟨e, n, hk, hn⟩ := hk
    exact ⟨eqPtr_none hk _ _ (.inl rfl) w, by simp, by simp, fun op => by cases op <;> rfl⟩
  · obtain ⟨rfl, _⟩ := hx
    subst hy he
    obtain ⟨e, n, hk, hn⟩ := hk
    exact ⟨eqPtr_none hk _ _ (.inr rfl) w, by simp, by simp, fun op => by cases op <;> rfl⟩
  · obtain ⟨rfl, ho1⟩ := hx
    obtain ⟨rfl, ho2⟩ := hy
    obtain ⟨e, n, hk, hn⟩ := hk
    rename_i b1 o1 b2 o2
    refine ⟨eqPtr_some hk hn _ _ w ?_, by simp, by simp, fun op => by cases op <;> rfl⟩
    subst he
    by_cases hb : b1 = b2
    · subst hb
      by_cases ho : o1 = o2
      · subst ho; simpa using run_sameAddr_same w _
      · obtain ⟨vs, ty, hh⟩ := r.at_blk ho1
        rw [show (b1 == b1 && o1 == o2) = false by simp [ho]]
        exact run_sameAddr_other (P := P) w (a := ⟨g.phi b1, o1, none⟩) (b := ⟨g.phi b1, o2, none⟩) (by simpa using ho) hh hh
    · have hne : g.phi b1 ≠ g.phi b2 := fun e' => by rw [e', ho2] at ho1; cases ho1; exact hb rfl
      obtain ⟨vs, ty, hh⟩ := r.at_blk ho1
      obtain ⟨vs', ty', hh'⟩ := r.at_blk ho2
      rw [show (b1 == b2 && o1 == o2) = false by simp [hb]]
      exact run_sameAddr_other (P := P) w (a := ⟨g.phi b1, o1, none⟩) (b := ⟨g.phi b2, o2, none⟩) (by simp [hne]) hh hh'
  · obtain ⟨z, rfl, _⟩ := hy
    subst hx he
    obtain ⟨ms, hk⟩ := hk
    exact ⟨(eqIfc hk _ _ w).1, by simp, by simp, fun op => by cases op <;> rfl⟩
  · obtain ⟨z, rfl, _⟩ := hx
    subst hy he
    obtain ⟨ms, hk⟩ := hk
    exact ⟨(eqIfc hk _ _ w).2, by simp, by simp, fun op => by cases op <;> rfl⟩
  all_goals
    obtain ⟨e, hk⟩ := hk
    simp only [GrR] at hy
    obtain ⟨a2, c2, rfl, _, _, rfl, rfl⟩ := hy
    obtain ⟨a1, c1, rfl, hcs, _, hg⟩ := hx
    subst he
  · simp only [GrR] at hg
    obtain ⟨rfl, rfl⟩ := hg
    exact ⟨eqSl hk _ _ _ _ _ w, by simp, by simp, fun op => by cases op <;> rfl⟩
  · simp only [GrR] at hg
    have : a1.isNone = false := by cases a1 <;> simp at hg ⊢
    exact ⟨by rw [← this]; exact eqSl hk _ _ _ _ _ w, by simp, by simp, fun op => by cases op <;> rfl⟩
  · rcases hcs with hcs | ⟨B, o, rfl, _⟩
    · cases hcs
    · exact ⟨eqSl hk _ _ _ _ _ w, by simp, by simp, fun op => by cases op <;> rfl⟩

theorem bin_ok (r : R P tab g h w) {vs : List V} {a b : Value} (hl : LR P g h.tok vs [a, b]) {rs : Rs} {h1 : H} {op : BinOp} {kd : Kd} {t : Nat} (hk : KdOK P t kd) (he : exBin op kd h vs = some (rs, h1))
    {x y : Operand} : OpOut P tab g h w n0 rs h1 ((liftV (do eqGuard op t x y a b; binOp op t a b)).run P w) := by
  obtain ⟨u, v, rfl, hu, hv⟩ := hl.inv2
  refine voutO r he fun z hz => ?_
  unfold binV at hz
  split at hz
  · rename_i k n j m
    simp only [VR] at hu hv; subst hu hv
    have hg := eqGuard_ok (P := P) (op := op) (t := t) (x := x) (y := y) (a := .int k n) (b := .int j m) (by simp) (by simp) w
    split at hz
    · obtain ⟨c, h1, h2⟩ := shI_ok (P := P) hz t w
      exact ⟨c, liftV_ok (by simp only [Sem.run_bind, hg, Result.andThen_ok]; exact h1), h2 _ _⟩
    · obtain ⟨c, h1, h2⟩ := shI_ok (P := P) hz t w
      exact ⟨c, liftV_ok (by simp only [Sem.run_bind, hg, Result.andThen_ok]; exact h1), h2 _ _⟩
    · rename_i hs1 hs2
      split at hz
      · rename_i hkj; subst hkj
        obtain ⟨c, h1, h2⟩ := binI_ok (P := P) hz ⟨hs1, hs2⟩ t w
        exact ⟨c, liftV_ok (by simp only [Sem.run_bind, hg, Result.andThen_ok]; exact h1), h2 _ _⟩
      · cases hz
  · simp only [VR] at hu hv
    obtain ⟨s1, rfl, rfl⟩ := hu
    obtain ⟨s2, rfl, rfl⟩ := hv
    have hg := eqGuard_ok (P := P) (op := op) (t := t) (x := x) (y := y) (a := .string s1) (b := .string s2) (by simp) (by simp) w
    obtain ⟨c, h1, h2⟩ := binS_ok (P := P) hz t w
    exact ⟨c, liftV_ok (by simp only [Sem.run_bind, hg, Result.andThen_ok]; exact h1), h2 _ _⟩
  · split at hz
    · simp only [Option.map_eq_some_iff] at hz
      obtain ⟨q, hq, rfl⟩ := hz
      obtain ⟨k1, k2, k3, k4⟩ := eqV_ok r hk hq hu hv
      refine ⟨.bool q, liftV_ok ?_, by simp only [VR]⟩
      simp only [Sem.run_bind, eqGuard_ok k2 k3 w, Result.andThen_ok, k4, k1]
      rfl
    · simp only [Option.map_eq_some_iff] at hz
      obtain ⟨q, hq, rfl⟩ := hz
      obtain ⟨k1, k2, k3, k4⟩ := eqV_ok r hk hq hu hv
      refine ⟨.bool !q, liftV_ok ?_, by simp only [VR]⟩
      simp only [Sem.run_bind, eqGuard_ok k2 k3 w, Result.andThen_ok, k4, k1]
      rfl
    · cases hz

theorem un_ok (r : R P tab g h w) {vs : List V} {c : Value} (hl : LR P g h.tok vs [c]) {rs : Rs} {h1 : H} {op : UnOp} (he : exUn op h vs = some (rs, h1)) :
    OpOut P tab g h w n0 rs h1 ((liftV (Op.unary op c)).run P w) := by
  obtain ⟨v, rfl, hv⟩ := hl.inv1
  refine voutO r he fun z hz => ?_
  obtain ⟨d, h1, h2⟩ := unV_ok (P := P) hz hv w
  exact ⟨d, liftV_ok h1, h2⟩

theorem ixS_ok (r : R P tab g h w) {vs : List V} {a b : Value} (hl : LR P g h.tok vs [a, b]) {rs : Rs} {h1 : H} {t : Nat} (ht : P.underlying t = some .string) (he : exIxS h vs = some (rs, h1)) :
    OpOut P tab g h w n0 rs h1 ((liftV (Instr.index t a b)).run P w) := by
  obtain ⟨u, v, rfl, hu, hv⟩ := hl.inv2
  cases u <;> simp only [exIxS] at he <;> first
    | cases he; done
    | skip
  simp only [VR] at hu
  obtain ⟨s, rfl, rfl⟩ := hu
  split at he
  · cases he
  · rename_i i hi
    obtain ⟨k, rfl⟩ := natOf_some hi
    simp only [VR] at hv; subst hv
    split at he
    · rename_i x hx
      have hlt : i < s.size := by
        have := (List.getElem?_eq_some_iff.1 hx).1; rwa [natsOf_length] at this
      have hs : s[i]? = some s[i] := ByteArray.getElem?_lt' s i hlt
      have hxe : x = s[i].toNat := by
        simp only [natsOf, List.getElem?_map, Option.map_eq_some_iff] at hx
        obtain ⟨y, hy, rfl⟩ := hx
        have : s.data.toList[i]? = some s[i] := by
          have hlt' : i < s.data.size := hlt
          simp only [Array.getElem?_toList]
          rw [Array.getElem?_eq_getElem hlt']; rfl
        rw [this] at hy; cases hy; rfl
      refine vout r he (c := .int .u8 x) (liftV_ok ?_) (by simp only [b8, VR])
      simp [Instr.index, asIntOf, run_underlying ht, hs, hxe]
    · cases he

theorem part_ok {t : Nat} {agg : Bool} {n : Nat} (hg : aggB P t = some agg) (hn : sizeB P t = some n) {cs : List V} {cvs : Array Value} (hl : LR P g tok cs cvs.toList) {off : Nat} (hoff : off + n ≤ cs.length)
    {v : V} (hv : take1 agg n (cs.drop off) = some v) (w : World) : ∃ c, (part t cvs off).run P w = .ok c w ∧ VR P g tok v c := by
  unfold part
  simp only [Sem.run_bind, run_agg hg, Result.andThen_ok]
  have hlen := hl.length
  cases agg with
  | true =>
    simp only [take1, if_true] at hv
    split at hv
    · cases hv
      refine ⟨.agg (cvs.extract off (off + n)), by simp [run_size hn], ?_⟩
      simp only [VR]
      refine ⟨(cvs.toList.drop off).take n, ?_, (hl.drop off).take n⟩
      congr 1
      apply Array.toList_inj.1
      rw [Array.toList_extract]
      simp [List.extract, List.take_drop, Nat.add_sub_cancel_left]
    · cases hv
  | false =>
    simp only [take1, Bool.false_eq_true, if_false] at hv
    split at hv
    · rename_i c rest hcs
      cases hv
      obtain ⟨d, hd, hvd⟩ := hl.get (i := off) (v := v) (by have : (cs.drop off)[0]? = some v := by rw [hcs]; rfl
                                                            simpa [List.getElem?_drop] using this)
      refine ⟨d, ?_, hvd⟩
      have : cvs[off]? = some d := by simpa using hd
      simp [this]
    · cases hv

theorem fld_ok (r : R P tab g h w) {vs : List V} {a : Value} (hl : LR P g h.tok vs [a]) {rs : Rs} {h1 : H} {t i n : Nat} {fs : Array Field} {f : Field} {agg : Bool} (ht : P.underlying t = some (.struct fs)) (hf : fs[i]? = some f)
    (hg : aggB P f.type = some agg) (hn : sizeB P f.type = some n) (he : exFld agg f.offset n h vs = some (rs, h1)) : OpOut P tab g h w n0 rs h1 ((liftV (Instr.field t a i)).run P w) := by
  obtain ⟨u, rfl, hu⟩ := hl.inv1
  cases u <;> simp only [exFld] at he <;> first
    | cases he; done
    | skip
  simp only [VR] at hu
  obtain ⟨cvs, rfl, hc⟩ := hu
  split at he
  · rename_i hoff
    refine voutO r he fun v hv => ?_
    obtain ⟨c, h1, h2⟩ := part_ok hg hn (cvs := cvs.toArray) hc hoff hv w
    exact ⟨c, liftV_ok (by simp [Instr.field, run_underlying ht, hf, asAgg, h1]), h2⟩
  · cases he

theorem ixG_ok (r : R P tab g h w) {vs : List V} {a b : Value} (hl : LR P g h.tok vs [a, b]) {rs : Rs} {h1 : H} {t e m n : Nat} {agg : Bool} (ht : P.underlying t = some (.array m e))
    (hg : aggB P e = some agg) (hn : sizeB P e = some n) (he : exIxG m n agg h vs = some (rs, h1)) : OpOut P tab g h w n0 rs h1 ((liftV (Instr.index t a b)).run P w) := by
  obtain ⟨u, v, rfl, hu, hv⟩ := hl.inv2
  cases u <;> simp only [exIxG] at he <;> first
    | cases he; done
    | skip
  simp only [VR] at hu
  obtain ⟨cvs, rfl, hc⟩ := hu
  split at he
  · cases he
  · rename_i i hi
    obtain ⟨k, rfl⟩ := natOf_some hi
    simp only [VR] at hv; subst hv
    split at he
    · rename_i hlt
      refine voutO r he fun v hv => ?_
      obtain ⟨c, h1, h2⟩ := part_ok hg hn (cvs := cvs.toArray) hc hlt.2 hv w
      refine ⟨c, liftV_ok ?_, h2⟩
      have h0 : (0 : Int) ≤ i ∧ (i : Int) < m := ⟨by omega, by omega⟩
      simp [Instr.index, asIntOf, run_underlying ht, run_size hn, h1, hlt.1]
    · cases he

theorem off_ok (r : R P tab g h w) {vs : List V} {a : Value} (hl : LR P g h.tok vs [a]) {rs : Rs} {h1 : H} {t i n : Nat} {fs : Array Field} {f : Field} (ht : P.underlying t = some (.struct fs)) (hf : fs[i]? = some f)
    (hn : sizeB P f.type = some n) (hn0 : n ≠ 0) (he : exOff f.offset h vs = some (rs, h1)) : OpOut P tab g h w n0 rs h1 ((liftV (Instr.fieldAt t a i)).run P w) := by
  obtain ⟨u, rfl, hu⟩ := hl.inv1
  have key : ∀ B o, a = .pointer (some ⟨B, o, none⟩) → (Instr.fieldAt t a i).run P w = .ok (.pointer (some ⟨B, o + f.offset, none⟩)) w := by
    rintro B o rfl
    simp [Instr.fieldAt, run_underlying ht, hf, Instr.sureAddr, fieldPlace, run_size hn, hn0, addr_add]
  cases u <;> simp only [exOff] at he <;> first
    | cases he; done
    | skip
  · simp only [VR] at hu
    refine vout r he (liftV_ok (key _ _ hu.1)) ?_
    simp only [VR]; exact ⟨trivial, hu.2⟩
  · simp only [VR] at hu
    obtain ⟨B, o, rfl, hc⟩ := hu
    split at he
    · refine vout r he (liftV_ok (key _ _ rfl)) ?_
      simp only [VR]; exact ⟨B, _, rfl, hc.drop _⟩
    · cases he

theorem ixA_ok (r : R P tab g h w) {vs : List V} {a b : Value} (hl : LR P g h.tok vs [a, b]) {rs : Rs} {h1 : H} {t e n : Nat} {arr : Option Nat} (ht : P.underlying t = some (match arr with | some m => .array m e | none => .slice e))
    (hn : sizeB P e = some n) (he : exIxA arr n h vs = some (rs, h1)) : OpOut P tab g h w n0 rs h1 ((liftV (Instr.indexAt t a b)).run P w) := by
  obtain ⟨u, v, rfl, hu, hv⟩ := hl.inv2
  simp only [exIxA] at he
  split at he
  · cases he
  · rename_i i hi
    obtain ⟨k, rfl⟩ := natOf_some hi
    simp only [VR] at hv; subst hv
    have keyA : ∀ m B o, arr = some m → i < m → a = .pointer (some ⟨B, o, none⟩) → (Instr.indexAt t a (.int k i)).run P w = .ok (.pointer (some ⟨B, o + i * n, none⟩)) w := by
      rintro m B o rfl hm rfl
      have h0 : (0 : Int) ≤ i ∧ (i : Int) < m := ⟨by omega, by omega⟩
      simp [Instr.indexAt, run_underlying ht, asIntOf, Instr.sureAddr, run_size hn, addr_add, hm]
    have keyS : ∀ m c B o, arr = none → i < m → a = .slice (some ⟨B, o, none⟩) m c → (Instr.indexAt t a (.int k i)).run P w = .ok (.pointer (some ⟨B, o + i * n, none⟩)) w := by
      rintro m c B o rfl hm rfl
      have h0 : (0 : Int) ≤ i ∧ (i : Int) < m := ⟨by omega, by omega⟩
      simp [Instr.indexAt, run_underlying ht, asIntOf, run_size hn, addr_add, hm]
    split at he
    · split at he
      · simp only [VR] at hu
        exact vout r he (liftV_ok (keyA _ _ _ rfl (by assumption) hu.1)) (by simp only [VR]; exact ⟨trivial, hu.2⟩)
      · cases he
    · split at he
      · rename_i hlt
        simp only [VR] at hu
        obtain ⟨B, o, rfl, hc⟩ := hu
        exact vout r he (liftV_ok (keyA _ _ _ rfl hlt.1 rfl)) (by simp only [VR]; exact ⟨B, _, rfl, hc.drop _⟩)
      · cases he
    · split at he
      · rename_i hlt
        simp only [VR] at hu
        obtain ⟨a0, c, rfl, hc, _, _⟩ := hu
        rcases hc with rfl | ⟨B, o, rfl, hc⟩
        · simp at hlt
        · exact vout r he (liftV_ok (keyS _ _ _ _ rfl hlt.1 rfl)) (by simp only [VR]; exact ⟨B, _, rfl, hc.drop _⟩)
      · cases he
    · split at he
      · rename_i hlt
        obtain ⟨hlt, rfl⟩ := hlt
        simp only [VR] at hu
        exact vout r he (liftV_ok (keyS _ _ _ _ rfl hlt hu.1)) (by simp only [VR]; exact ⟨trivial, hu.2.2⟩)
      · cases he
    · cases he
end

end Go.Sim

/- One operation of the evaluator's is one of the machine's: loads, slices, texts, calls. Conditions: none. -/
set_option linter.unusedSimpArgs false
set_option linter.unusedVariables false
namespace Go.Sim

section
variable {P : Program} {tab : Tab} {g : G} {h : H} {w : World} {n0 : Nat} {tok : Toks}

theorem CW.get {vs : List V} {B o : Nat} (hc : CW P g tok w vs B o) {i : Nat} {v : V} (hv : vs[i]? = some v) : ∃ c, w.cell? ⟨B, o + i, none⟩ = some c ∧ VR P g tok v c := by
  obtain ⟨cs, h1, h2⟩ := hc
  obtain ⟨c, hc, hr⟩ := h1.get hv
  exact ⟨c, h2 i c hc, hr⟩

theorem CW.load {vs : List V} {B o : Nat} (hc : CW P g tok w vs B o) : ∃ cs : List Value, (loadCells ⟨B, o, none⟩ vs.length).run P w = .ok cs.toArray w ∧ LR P g tok vs cs := by
  obtain ⟨cs, h1, h2⟩ := hc
  exact ⟨cs, by rw [h1.length]; exact run_loadCells_cw h2, h1⟩

theorem load_val (r : R P tab g h w) {u : V} {a : Value} (hu : VR P g h.tok u a) {t n : Nat} {agg : Bool} (hg : aggB P t = some agg) (hn : sizeB P t = some n) {v : V} (hv : (u.cells h).bind (take1 agg n) = some v) :
    ∃ B o c, a = .pointer (some ⟨B, o, none⟩) ∧ (loadVar t ⟨B, o, none⟩).run P w = .ok c w ∧ VR P g h.tok v c := by
  simp only [Option.bind_eq_some_iff] at hv
  obtain ⟨cs, hcs, hv⟩ := hv
  obtain ⟨B, o, rfl, hc⟩ := cells_ok r hu hcs
  refine ⟨B, o, ?_⟩
  cases agg with
  | true =>
    simp only [take1, if_true] at hv
    split at hv
    · rename_i hle
      cases hv
      obtain ⟨ds, h1, h2⟩ := (hc.take n).load
      rw [List.length_take, Nat.min_eq_left hle] at h1
      refine ⟨.agg ds.toArray, rfl, ?_, by simp only [VR]; exact ⟨ds, rfl, h2⟩⟩
      simp [loadVar, run_agg hg, run_size hn, h1]
    · cases hv
  | false =>
    simp only [take1, Bool.false_eq_true, if_false] at hv
    split at hv
    · rename_i c rest
      cases hv
      obtain ⟨d, h1, h2⟩ := hc.get (i := 0) (v := v) (by simp)
      refine ⟨d, rfl, ?_, h2⟩
      simp only [Nat.add_zero] at h1
      simp [loadVar, run_agg hg, h1]
    · cases hv

theorem load_ok (r : R P tab g h w) {vs : List V} {a : Value} (hl : LR P g h.tok vs [a]) {rs : Rs} {h1 : H} {t n : Nat} {agg : Bool} (hg : aggB P t = some agg) (hn : sizeB P t = some n)
    (he : exLoad agg n h vs = some (rs, h1)) : OpOut P tab g h w n0 rs h1 ((liftV (Instr.loadAt t a)).run P w) := by
  obtain ⟨u, rfl, hu⟩ := hl.inv1
  refine voutO r he fun v hv => ?_
  obtain ⟨B, o, c, rfl, h2, h3⟩ := load_val r hu hg hn hv
  exact ⟨c, liftV_ok (by simp [Instr.loadAt, Instr.sureAddr, h2]), h3⟩

-- ---------------------------------------------------------------- slices
theorem bound_run (k : IntKind) {i y : Nat} (code : BoundsCode) (hi : i ≤ y) (w : World) : (Instr.sliceBound (.int k (i : Int)) y code).run P w = .ok i w := by
  rw [run_sliceBound w k i y code (by omega) (by omega)]; simp

theorem bounds_ok {us : List V} {lov hiv mxv : Option Value} (hl : LR P g tok us (lov.toList ++ hiv.toList ++ mxv.toList)) {n cap l hh m : Nat} (hn : n ≤ cap)
    (hb : bounds n lov.isSome hiv.isSome mxv.isSome us = some (l, hh, m)) (b : Bool) (w : World) :
    (Instr.sliceBounds b n cap lov hiv mxv).run P w = .ok (l, hh, if mxv.isSome then m else cap) w ∧ l ≤ hh ∧ hh ≤ m ∧ m ≤ n ∧ (mxv = none → m = n) := by
  cases lov <;> cases hiv <;> cases mxv <;> simp only [Option.toList_none, Option.toList_some, List.nil_append, List.append_nil, List.cons_append] at hl <;>
    simp only [bounds, Option.isSome_none, Option.isSome_some, Bool.not_true, Bool.not_false, Bool.and_self, Bool.and_true, Bool.and_false, Bool.false_eq_true, if_true, if_false, reduceCtorEq] at hb
  · obtain rfl := hl.inv0
    split at hb <;> simp only [Option.some.injEq, Prod.mk.injEq, reduceCtorEq] at hb
    obtain ⟨rfl, rfl, rfl⟩ := hb
    refine ⟨?_, by omega, by omega, by omega, fun _ => rfl⟩
    simp [Instr.sliceBounds]
  · obtain ⟨v, rfl, hv⟩ := hl.inv1
    simp only [List.head?_cons, List.tail_cons, Option.bind_some] at hb
    split at hb
    · rename_i x1 x2 x3 h1 h2 h3
      split at hb <;> simp only [Option.some.injEq, Prod.mk.injEq, reduceCtorEq] at hb
      rename_i hle
      obtain ⟨rfl, rfl, rfl⟩ := hb
      simp only [Option.some.injEq] at h1
      obtain ⟨k0, rfl⟩ := natOf_some h2
      simp only [Option.some.injEq] at h3
      simp only [VR] at hv; subst hv
      refine ⟨?_, by omega, by omega, by omega, fun _ => by omega⟩
      have hf0 := fun code => bound_run (P := P) k0 code (show x2 ≤ cap by omega) w
      simp [Instr.sliceBounds, hf0, ← h1]
    · cases hb
  · obtain ⟨v, u, rfl, hv, hu⟩ := hl.inv2
    simp only [List.head?_cons, List.tail_cons, Option.bind_some] at hb
    split at hb
    · rename_i x1 x2 x3 h1 h2 h3
      split at hb <;> simp only [Option.some.injEq, Prod.mk.injEq, reduceCtorEq] at hb
      rename_i hle
      obtain ⟨rfl, rfl, rfl⟩ := hb
      simp only [Option.some.injEq] at h1
      obtain ⟨k0, rfl⟩ := natOf_some h2
      obtain ⟨k1, rfl⟩ := natOf_some h3
      simp only [VR] at hv; subst hv
      simp only [VR] at hu; subst hu
      refine ⟨?_, by omega, by omega, by omega, fun e => by cases e⟩
      have hf0 := fun code => bound_run (P := P) k1 code (show x3 ≤ cap by omega) w
      have hf1 := fun code => bound_run (P := P) k0 code (show x2 ≤ x3 by omega) w
      simp [Instr.sliceBounds, hf0, hf1, ← h1]
    · cases hb
  · obtain ⟨v, rfl, hv⟩ := hl.inv1
    simp only [List.head?_cons, List.tail_cons, Option.bind_some] at hb
    split at hb
    · rename_i x1 x2 x3 h1 h2 h3
      split at hb <;> simp only [Option.some.injEq, Prod.mk.injEq, reduceCtorEq] at hb
      rename_i hle
      obtain ⟨rfl, rfl, rfl⟩ := hb
      obtain ⟨k0, rfl⟩ := natOf_some h1
      simp only [Option.some.injEq] at h2
      simp only [Option.some.injEq] at h3
      simp only [VR] at hv; subst hv
      refine ⟨?_, by omega, by omega, by omega, fun _ => by omega⟩
      have hf0 := fun code => bound_run (P := P) k0 code (show x1 ≤ n by omega) w
      simp [Instr.sliceBounds, hf0, ← h2]
    · cases hb
  · obtain ⟨v, u, rfl, hv, hu⟩ := hl.inv2
    simp only [List.head?_cons, List.tail_cons, Option.bind_some] at hb
    split at hb
    · rename_i x1 x2 x3 h1 h2 h3
      split at hb <;> simp only [Option.some.injEq, Prod.mk.injEq, reduceCtorEq] at hb
      rename_i hle
      obtain ⟨rfl, rfl, rfl⟩ := hb
      obtain ⟨k0, rfl⟩ := natOf_some h1
      obtain ⟨k1, rfl⟩ := natOf_some h2
      simp only [Option.some.injEq] at h3
      simp only [VR] at hv; subst hv
      simp only [VR] at hu; subst hu
      refine ⟨?_, by omega, by omega, by omega, fun _ => by omega⟩
      have hf0 := fun code => bound_run (P := P) k1 code (show x2 ≤ cap by omega) w
      have hf1 := fun code => bound_run (P := P) k0 code (show x1 ≤ x2 by omega) w
      simp [Instr.sliceBounds, hf0, hf1]
    · cases hb
  · obtain ⟨v, u, x, rfl, hv, hu, hx⟩ := hl.inv3
    simp only [List.head?_cons, List.tail_cons, Option.bind_some] at hb
    split at hb
    · rename_i x1 x2 x3 h1 h2 h3
      split at hb <;> simp only [Option.some.injEq, Prod.mk.injEq, reduceCtorEq] at hb
      rename_i hle
      obtain ⟨rfl, rfl, rfl⟩ := hb
      obtain ⟨k0, rfl⟩ := natOf_some h1
      obtain ⟨k1, rfl⟩ := natOf_some h2
      obtain ⟨k2, rfl⟩ := natOf_some h3
      simp only [VR] at hv; subst hv
      simp only [VR] at hu; subst hu
      simp only [VR] at hx; subst hx
      refine ⟨?_, by omega, by omega, by omega, fun e => by cases e⟩
      have hf0 := fun code => bound_run (P := P) k2 code (show x3 ≤ cap by omega) w
      have hf1 := fun code => bound_run (P := P) k1 code (show x2 ≤ x3 by omega) w
      have hf2 := fun code => bound_run (P := P) k0 code (show x1 ≤ x2 by omega) w
      simp [Instr.sliceBounds, hf0, hf1, hf2]
    · cases hb

theorem natsOf_extract (s : ByteArray) (l k : Nat) : natsOf (s.extract l k) = ((natsOf s).drop l).take (k - l) := by
  simp only [natsOf, ByteArray.data_extract, Array.toList_extract, List.extract, List.map_take, List.map_drop]

theorem sliceStr_ok (r : R P tab g h w) {vs : List V} {c : Value} {lov hiv : Option Value} (hl : LR P g h.tok vs (c :: (lov.toList ++ hiv.toList ++ (none : Option Value).toList))) {rs : Rs} {h1 : H} {t : Nat} (ht : P.underlying t = some .string)
    (he : exSlice .str lov.isSome hiv.isSome false h vs = some (rs, h1)) : OpOut P tab g h w n0 rs h1 ((liftV (Instr.sliceAt t c lov hiv none)).run P w) := by
  obtain ⟨u, us, rfl, hu, hus⟩ := hl.invc
  cases u <;> simp only [exSlice] at he <;> first
    | cases he; done
    | skip
  simp only [VR] at hu
  obtain ⟨s, rfl, rfl⟩ := hu
  refine voutO r he fun v hv => ?_
  simp only [Option.map_eq_some_iff] at hv
  obtain ⟨⟨l, hh, m⟩, hb, rfl⟩ := hv
  rw [natsOf_length] at hb
  obtain ⟨h1, h2, h3, h4, _⟩ := bounds_ok hus (Nat.le_refl _) hb false w
  refine ⟨.string (s.extract l hh), liftV_ok ?_, by simp only [VR]; exact ⟨_, rfl, (natsOf_extract s l hh).symm⟩⟩
  simp [Instr.sliceAt, run_underlying ht, Instr.slice, h1]

theorem sliceSl_ok (r : R P tab g h w) {vs : List V} {c : Value} {lov hiv mxv : Option Value} (hl : LR P g h.tok vs (c :: (lov.toList ++ hiv.toList ++ mxv.toList))) {rs : Rs} {h1 : H} {t e esz : Nat} (ht : P.underlying t = some (.slice e))
    (hn : sizeB P e = some esz) (he : exSlice (.sl esz) lov.isSome hiv.isSome mxv.isSome h vs = some (rs, h1)) : OpOut P tab g h w n0 rs h1 ((liftV (Instr.sliceAt t c lov hiv mxv)).run P w) := by
  obtain ⟨u, us, rfl, hu, hus⟩ := hl.invc
  have run : ∀ (a : Option Addr) (n k l hh m : Nat), (Instr.sliceBounds true n k lov hiv mxv).run P w = .ok (l, hh, m) w → (Instr.sliceAt t (.slice a n k) lov hiv mxv).run P w = .ok (.slice (if m = l then a else a.map (·.add (l * esz))) (hh - l) (m - l)) w := by
    intro a n k l hh m hb
    simp [Instr.sliceAt, run_underlying ht, Instr.slice, hb, run_size hn]
  cases u <;> simp only [exSlice] at he <;> first
    | cases he; done
    | skip
  · rename_i n cs gr
    simp only [VR] at hu
    obtain ⟨a, k, rfl, hcs, ⟨hnk, hk0⟩, hgr⟩ := hu
    refine voutO r he fun v hv => ?_
    simp only [Option.map_eq_some_iff] at hv
    obtain ⟨⟨l, hh, m⟩, hb, rfl⟩ := hv
    obtain ⟨h1, h2, h3, h4, h5⟩ := bounds_ok hus hnk hb true w
    refine ⟨_, liftV_ok (run a n k l hh _ h1), ?_⟩
    generalize hm' : (if mxv.isSome = true then m else k) = m'
    have hmm : m ≤ m' := by
      subst hm'; split
      · exact Nat.le_refl _
      · rename_i hx
        have : mxv = none := by cases mxv <;> simp at hx ⊢
        have := h5 this; omega
    simp only [cutSl, VR]
    have hnone : a = none → m' = 0 := fun ha => by
      have h0 := hk0 ha
      subst hm'; split
      · omega
      · exact h0
    refine ⟨_, _, rfl, ?_, ⟨by omega, fun ha => ?_⟩, ?_⟩
    rotate_left
    · have : a = none := by
        split at ha
        · exact ha
        · cases a <;> simp at ha ⊢
      have := hnone this
      omega
    rotate_left
    · by_cases hml : m' = l
      · left
        have : hh - l = 0 := by omega
        simp [this]
      · rcases hcs with rfl | ⟨B, o, rfl, hc⟩
        · left; simp
        · right
          simp only [hml, if_false, Option.map_some, addr_add]
          exact ⟨B, _, rfl, (hc.drop _).take _⟩
    · unfold growthOf
      split
      · rename_i hmx
        split
        · rename_i hhm
          simp only [GrR]
          subst hm'; rw [if_pos hmx]; omega
        · trivial
      · rename_i hmx
        have hmn : mxv = none := by cases mxv <;> simp at hmx ⊢
        have hme := h5 hmn
        subst hm'
        rw [if_neg hmx]
        split
        · rename_i hhn
          subst hhn
          cases gr with
          | none => trivial
          | exact => simp only [GrR] at hgr ⊢; omega
          | nil =>
            simp only [GrR] at hgr ⊢
            obtain ⟨rfl, rfl⟩ := hgr
            exact ⟨by split <;> rfl, by omega⟩
          | nn =>
            simp only [GrR] at hgr ⊢
            split
            · exact hgr
            · cases a <;> simp at hgr ⊢
          | tok t' e' =>
            simp only
            split
            · rename_i hl0
              subst hl0
              simp only [GrR] at hgr ⊢
              obtain ⟨m0, ty, k1, k2, k3⟩ := hgr
              refine ⟨m0, ty, k1, k2, fun k4 => ?_⟩
              obtain ⟨o, rfl, k5, k6, k7⟩ := k3 k4
              refine ⟨o, ?_, by simpa using k5, by simpa using k6, k7⟩
              split
              · rfl
              · simp [addr_add]
            · trivial
        · trivial
  · rename_i b o n k e'
    split at he
    · rename_i hc
      obtain ⟨rfl, hmx⟩ := hc
      refine voutO r he fun v hv => ?_
      simp only [Option.map_eq_some_iff] at hv
      obtain ⟨⟨l, hh, m⟩, hb, rfl⟩ := hv
      simp only [VR] at hu
      obtain ⟨rfl, hnk, ho⟩ := hu
      rw [← hmx] at hb
      obtain ⟨h1, h2, h3, h4, h5⟩ := bounds_ok hus hnk hb true w
      refine ⟨_, liftV_ok (run _ n k l hh _ h1), ?_⟩
      simp only [hmx, Bool.false_eq_true, if_false, VR]
      refine ⟨?_, by omega, ho⟩
      congr 1
      split
      · rfl
      · simp [addr_add]
    · cases he

-- ---------------------------------------------------------------- max, min
theorem maxL_ok : ∀ (vs : List V) (cs : List Value) (k : IntKind) (m : Int) (v : V), LR P g tok vs cs → maxL k m vs = some v → ∃ c, (cs.foldlM Builtin.max2 (.int k m)).run P w = .ok c w ∧ VR P g tok v c
  | [], cs, k, m, v, hl, hv => by
    simp only [LR] at hl; subst hl
    simp only [maxL, Option.some.injEq] at hv; subst hv
    exact ⟨_, rfl, by simp only [VR]⟩
  | x :: vs, cs, k, m, v, hl, hv => by
    simp only [LR] at hl
    obtain ⟨c, cs', rfl, hx, hl⟩ := hl
    cases x <;> simp only [maxL, reduceCtorEq] at hv
    rename_i j b
    split at hv
    · rename_i hkj; subst hkj
      simp only [VR] at hx; subst hx
      obtain ⟨d, h1, h2⟩ := maxL_ok vs cs' k _ v hl hv
      refine ⟨d, ?_, h2⟩
      rw [ltI_eq] at h1
      simp only [List.foldlM_cons, Sem.run_bind, Builtin.max2, Sem.run_pure, Result.andThen_ok]
      simpa using h1
    · cases hv

theorem minL_ok : ∀ (vs : List V) (cs : List Value) (k : IntKind) (m : Int) (v : V), LR P g tok vs cs → minL k m vs = some v → ∃ c, (cs.foldlM Builtin.min2 (.int k m)).run P w = .ok c w ∧ VR P g tok v c
  | [], cs, k, m, v, hl, hv => by
    simp only [LR] at hl; subst hl
    simp only [minL, Option.some.injEq] at hv; subst hv
    exact ⟨_, rfl, by simp only [VR]⟩
  | x :: vs, cs, k, m, v, hl, hv => by
    simp only [LR] at hl
    obtain ⟨c, cs', rfl, hx, hl⟩ := hl
    cases x <;> simp only [minL, reduceCtorEq] at hv
    rename_i j b
    split at hv
    · rename_i hkj; subst hkj
      simp only [VR] at hx; subst hx
      obtain ⟨d, h1, h2⟩ := minL_ok vs cs' k _ v hl hv
      refine ⟨d, ?_, h2⟩
      rw [ltI_eq] at h1
      simp only [List.foldlM_cons, Sem.run_bind, Builtin.min2, Sem.run_pure, Result.andThen_ok]
      simpa using h1
    · cases hv

theorem max_ok (r : R P tab g h w) {vs : List V} {cs : List Value} (hl : LR P g h.tok vs cs) {rs : Rs} {h1 : H} (he : exMax h vs = some (rs, h1)) {ts : Array Nat} {ty : Nat} :
    OpOut P tab g h w n0 rs h1 ((liftV (Builtin.max_ ts ty cs.toArray)).run P w) := by
  unfold exMax at he
  split at he
  · simp only [LR] at hl
    obtain ⟨c, cs', rfl, hx, hl⟩ := hl
    simp only [VR] at hx; subst hx
    refine voutO r he fun v hv => ?_
    obtain ⟨d, h1, h2⟩ := maxL_ok (w := w) _ cs' _ _ v hl hv
    exact ⟨d, liftV_ok (by simpa [Builtin.max_] using h1), h2⟩
  · cases he

theorem min_ok (r : R P tab g h w) {vs : List V} {cs : List Value} (hl : LR P g h.tok vs cs) {rs : Rs} {h1 : H} (he : exMin h vs = some (rs, h1)) {ts : Array Nat} {ty : Nat} :
    OpOut P tab g h w n0 rs h1 ((liftV (Builtin.min_ ts ty cs.toArray)).run P w) := by
  unfold exMin at he
  split at he
  · simp only [LR] at hl
    obtain ⟨c, cs', rfl, hx, hl⟩ := hl
    simp only [VR] at hx; subst hx
    refine voutO r he fun v hv => ?_
    obtain ⟨d, h1, h2⟩ := minL_ok (w := w) _ cs' _ _ v hl hv
    exact ⟨d, liftV_ok (by simpa [Builtin.min_] using h1), h2⟩
  · cases he
end

end Go.Sim

/- One operation of the evaluator's is one of the machine's: bytes, addresses, calls. Conditions: none. -/
set_option linter.unusedSimpArgs false
set_option linter.unusedVariables false
namespace Go.Sim

section
variable {P : Program} {tab : Tab} {g : G} {h : H} {w : World} {n0 : Nat} {tok : Toks}

-- ---------------------------------------------------------------- bytes
theorem byteOf_some {v : V} {b : Nat} (hb : byteOf v = some b) : v = .int .u8 (b : Int) ∧ b < 256 := by
  unfold byteOf at hb
  split at hb
  · split at hb
    · rename_i hlt
      cases hb
      exact ⟨rfl, by simpa [Nat.blt_eq] using hlt⟩
    · cases hb
  · cases hb

theorem bytesOf_cons {v : V} {vs : List V} {bs : List Nat} (hb : bytesOf (v :: vs) = some bs) : ∃ b bs', bs = b :: bs' ∧ byteOf v = some b ∧ bytesOf vs = some bs' := by
  simp only [bytesOf, List.mapM_cons, Option.bind_eq_bind, Option.bind_eq_some_iff, Option.pure_def, Option.some.injEq] at hb
  obtain ⟨b, h1, bs', h2, rfl⟩ := hb
  exact ⟨b, bs', rfl, h1, h2⟩

/-- Cells of bytes. -/
theorem bytes_cells : ∀ (vs : List V) (cs : List Value) (bs : List Nat), LR P g tok vs cs → bytesOf vs = some bs → cs = (bs.map Int.ofNat).map (Value.int .u8) ∧ ∀ b ∈ bs, b < 256
  | [], cs, bs, hl, hb => by
    simp only [LR] at hl; subst hl
    simp only [bytesOf, List.mapM_nil, Option.pure_def, Option.some.injEq] at hb; subst hb
    exact ⟨rfl, fun b hb => by simp at hb⟩
  | v :: vs, cs, bs, hl, hb => by
    simp only [LR] at hl
    obtain ⟨c, cs', rfl, hv, hl⟩ := hl
    obtain ⟨b, bs', rfl, h1, h2⟩ := bytesOf_cons hb
    obtain ⟨rfl, hlt⟩ := byteOf_some h1
    simp only [VR] at hv; subst hv
    obtain ⟨h3, h4⟩ := bytes_cells vs cs' bs' hl h2
    refine ⟨by rw [h3]; rfl, fun x hx => ?_⟩
    rcases List.mem_cons.1 hx with rfl | hx
    · exact hlt
    · exact h4 x hx

theorem natsOf_push (s : ByteArray) (b : Nat) (hb : b < 256) : natsOf (s.push (UInt8.ofNat (Int.ofNat b).toNat)) = natsOf s ++ [b] := by
  simp only [natsOf, ByteArray.push, Array.toList_push, List.map_append, List.map_cons, List.map_nil, Int.ofNat_eq_natCast, Int.toNat_natCast]
  congr 2
  simp [UInt8.toNat_ofNat']
  omega

theorem natsOf_foldl : ∀ (bs : List Nat) (s : ByteArray), (∀ b ∈ bs, b < 256) → natsOf ((bs.map Int.ofNat).foldl (fun r n => r.push (UInt8.ofNat n.toNat)) s) = natsOf s ++ bs
  | [], s, _ => by simp
  | b :: bs, s, hb => by
    simp only [List.map_cons, List.foldl_cons]
    rw [natsOf_foldl bs _ fun x hx => hb x (by simp [hx]), natsOf_push s b (hb b (by simp))]
    simp

theorem b2s_ok (r : R P tab g h w) {vs : List V} {c : Value} (hl : LR P g h.tok vs [c]) {rs : Rs} {h1 : H} (he : exB2s h vs = some (rs, h1)) {src dst e : Nat}
    (hs : P.underlying src = some (.slice e)) (hd : P.underlying dst = some .string) (hee : P.underlying e = some (.int .u8)) : OpOut P tab g h w n0 rs h1 ((liftV (convert src dst c)).run P w) := by
  obtain ⟨u, rfl, hu⟩ := hl.inv1
  refine voutO r he fun v hv => ?_
  simp only [Option.map_eq_some_iff, Option.bind_eq_some_iff] at hv
  obtain ⟨bs, ⟨⟨n, cs⟩, h1, h2⟩, rfl⟩ := hv
  split at h2
  · rename_i hlen
    simp only at hlen h2
    obtain ⟨a, k, rfl, hnk, hc⟩ := elems_ok r hu h1
    have hrun : ∃ s : ByteArray, (Conv.bytesToString (.slice a n k)).run P w = .ok (.string s) w ∧ bs = natsOf s := by
      cases a with
      | none =>
        have : cs = [] := by
          rcases hc with hc | ⟨B, o, hx, _⟩
          · exact hc
          · cases hx
        subst this
        simp only [bytesOf, List.mapM_nil, Option.pure_def, Option.some.injEq] at h2; subst h2
        exact ⟨.empty, rfl, rfl⟩
      | some a =>
        have hload : ∃ ds : List Value, (loadCells a n).run P w = .ok ds.toArray w ∧ LR P g h.tok cs ds := by
          rcases hc with rfl | ⟨B, o, hx, hc⟩
          · simp at hlen; subst hlen
            exact ⟨[], rfl, by simp only [LR]⟩
          · cases hx
            rw [← hlen]; exact hc.load
        obtain ⟨ds, h3, h4⟩ := hload
        obtain ⟨h5, h6⟩ := bytes_cells cs ds bs h4 h2
        subst h5
        refine ⟨_, run_bytesToString w a n k (bs.map Int.ofNat) h3, ?_⟩
        rw [natsOf_foldl bs _ h6]; rfl
    obtain ⟨s, h3, rfl⟩ := hrun
    refine ⟨.string s, liftV_ok ?_, by simp only [VR]; exact ⟨s, rfl, rfl⟩⟩
    simp [convert, run_underlying hs, run_underlying hd, run_underlying hee, h3]
  · cases h2

-- ---------------------------------------------------------------- addresses
theorem toUns_ok (r : R P tab g h w) {vs : List V} {c : Value} (hl : LR P g h.tok vs [c]) {rs : Rs} {h1 : H} (he : exToUns h vs = some (rs, h1)) {src dst e n : Nat}
    (hs : P.underlying src = some (.pointer e)) (hd : P.underlying dst = some .unsafePointer) (hn : sizeB P e = some (n + 1)) : OpOut P tab g h w n0 rs h1 ((liftV (convert src dst c)).run P w) := by
  obtain ⟨u, rfl, hu⟩ := hl.inv1
  cases u <;> simp only [exToUns] at he <;> first
    | cases he; done
    | skip
  · refine vout r he (c := c) (liftV_ok ?_) hu
    simp only [VR] at hu; subst hu
    simp [convert, run_underlying hs, run_underlying hd, Conv.unsafePointer]
  · rename_i b o
    split at he
    · rename_i ct hb
      split at he
      · rename_i ho
        refine vout r he (c := c) (liftV_ok ?_) hu
        simp only [VR] at hu
        obtain ⟨rfl, hown⟩ := hu
        obtain ⟨ty, cs⟩ := ct
        obtain ⟨d, h2, _⟩ := (r.blk_cw (o := o) hb hown).get (i := 0) (v := cs[o]) (by simp [List.getElem?_drop])
        refine run_convert_to_unsafe hs hd ?_ (by simpa using h2)
        simp only [sizeB, Option.map_eq_some_iff] at hn ⊢
        obtain ⟨i, hi, hsz⟩ := hn
        exact ⟨i, hi, by simp [hsz]⟩
      · cases he
    · cases he

theorem lies_whole {e n : Nat} (hn : sizeB P e = some (n + 1)) : liesAt P P.depth e ((n + 1) / P.cellsOf e) 0 e 1 = true := by
  have hc := cellsOf_size hn
  have hd : ∃ d, P.depth = d + 1 := ⟨2 * (P.types.size + Made.depth) + 1, rfl⟩
  obtain ⟨d, hd⟩ := hd
  have hsl : sameLayout P P.depth e e = true := by rw [hd]; simp [sameLayout]
  rw [hd]
  unfold liesAt
  have : rowAt P (fun x => sameLayout P P.depth x e) P.depth e ((n + 1) / P.cellsOf e) 0 1 = true := by
    rw [hd]
    unfold rowAt
    simp only [hc]
    rw [← hd, hsl]
    simp
  rw [this]; rfl

theorem fromUns_ok (r : R P tab g h w) {vs : List V} {c : Value} (hl : LR P g h.tok vs [c]) {rs : Rs} {h1 : H} {src dst e n : Nat} (he : exFromUns e (n + 1) h vs = some (rs, h1))
    (hs : P.underlying src = some .unsafePointer) (hd : P.underlying dst = some (.pointer e)) (hn : sizeB P e = some (n + 1)) : OpOut P tab g h w n0 rs h1 ((liftV (convert src dst c)).run P w) := by
  obtain ⟨u, rfl, hu⟩ := hl.inv1
  cases u <;> simp only [exFromUns] at he <;> first
    | cases he; done
    | skip
  · refine vout r he (c := c) (liftV_ok ?_) hu
    simp only [VR] at hu; subst hu
    simp [convert, run_underlying hs, run_underlying hd, Conv.unsafePointer]
  · rename_i b o
    split at he
    · rename_i ct hb
      split at he
      · rename_i hq
        refine vout r he (c := c) (liftV_ok ?_) hu
        simp only [VR] at hu
        obtain ⟨rfl, hown⟩ := hu
        obtain ⟨ty, cs⟩ := ct
        obtain ⟨rfl, rfl, hlen⟩ := hq
        simp only at hlen hb hn hd ⊢
        obtain ⟨vs, h2, h3⟩ := r.blk b ty cs hb hown
        have hsz : vs.length = n + 1 := by rw [← h3.length, hlen]
        have hsh : w.shape? (g.phi b) = some (ty, n + 1) := by simp [World.shape?, h2, hsz]
        simp [convert, run_underlying hs, run_underlying hd, Conv.unsafePointer, Conv.seenAt, viewAt, hsh, run_size hn, variablesAt, lies_whole hn]
      · cases he
    · cases he

theorem sliData_ok (r : R P tab g h w) {vs : List V} {c : Value} (hl : LR P g h.tok vs [c]) {rs : Rs} {h1 : H} (he : exSliData h vs = some (rs, h1)) {ts : Array Nat} {ty : Nat} :
    OpOut P tab g h w n0 rs h1 ((liftV (Builtin.unsafeSliceData_ ts ty #[c])).run P w) := by
  obtain ⟨u, rfl, hu⟩ := hl.inv1
  cases u <;> simp only [exSliData] at he <;> first
    | cases he; done
    | skip
  rename_i n cs gr
  cases gr <;> simp only [exSliData] at he <;> first
    | cases he; done
    | skip
  rename_i t e
  split at he
  · rename_i m tt hm
    split at he
    · rename_i hq
      obtain ⟨rfl, hn⟩ := hq
      simp only [VR, GrR] at hu
      obtain ⟨a, k, rfl, hcs, hnk, m', ty', hm', hle, hf⟩ := hu
      rw [hm] at hm'; cases hm'
      obtain ⟨o, rfl, k1, k2, k3⟩ := hf rfl
      obtain ⟨_, f, hrow, _⟩ := r.tok t m tt hm
      refine vout r he (c := .pointer (some ⟨(g.tk t).blk, o, none⟩)) (liftV_ok ?_) ?_
      · have : k ≠ 0 := by omega
        have hdef : Builtin.unsafeSliceData_ ts ty #[.slice (some ⟨(g.tk t).blk, o, none⟩) n k] = (if k ≠ 0 then pure (.pointer (some ⟨(g.tk t).blk, o, none⟩)) else do
            if (← viewAt (g.tk t).blk).isSome then pure (.pointer (some ⟨(g.tk t).blk, o, none⟩)) else pure (.pointer (some ⟨← newObj (.view ⟨(g.tk t).blk, o, none⟩ (← elemOf ty)), 0, none⟩))) := rfl
        rw [hdef, if_pos this]; rfl
      · simp only [VR]
        refine ⟨_, o, f, some t, rfl, ?_, hrow⟩
        rcases hcs with rfl | ⟨B, o', he', hc⟩
        · simp only [CR]
        · cases he'; exact hc
    · cases he
  · cases he

-- ---------------------------------------------------------------- calls
theorem fnV_ok {f : V} {c : Value} (hf : VR P g tok f c) {vs : List V} {cs : List Value} (hl : LR P g tok vs cs) (hk : (∃ id caps, f = .fn id caps) ∨ ∃ l, f = .yld l) :
    ∃ d, ∀ w, (Deferred.ofValue c cs.toArray).run P w = .ok d w ∧ DfR P g tok f vs d := by
  rcases hk with ⟨id, caps, rfl⟩ | ⟨l, rfl⟩
  · simp only [VR] at hf
    obtain ⟨cvs, rfl, hc⟩ := hf
    exact ⟨_, fun w => ⟨rfl, cs, hl, by simp, cvs, hc, rfl⟩⟩
  · simp only [VR] at hf
    obtain ⟨rfl, ho⟩ := hf
    exact ⟨_, fun w => ⟨rfl, cs, hl, by simp, rfl, ho⟩⟩

theorem call_ok (r : R P tab g h w) {vs : List V} {c : Value} {cs : List Value} (hl : LR P g h.tok vs (c :: cs)) {rs : Rs} {h1 : H} (he : exCall h vs = some (rs, h1)) :
    OpOut P tab g h w n0 rs h1 ((do let d ← Deferred.ofValue c cs.toArray; invoke d.target d.args : Sem Next).run P w) := by
  obtain ⟨f, us, rfl, hf, hl⟩ := hl.invc
  have hk : ((∃ id caps, f = .fn id caps) ∨ ∃ l, f = .yld l) ∧ rs = .call f us ∧ h1 = h := by
    cases f <;> simp only [exCall] at he <;> first
      | cases he; done
      | skip
    · simp only [Option.some.injEq, Prod.mk.injEq] at he
      exact ⟨.inl ⟨_, _, rfl⟩, he.1.symm, he.2.symm⟩
    · simp only [Option.some.injEq, Prod.mk.injEq] at he
      exact ⟨.inr ⟨_, rfl⟩, he.1.symm, he.2.symm⟩
  obtain ⟨hk, rfl, rfl⟩ := hk
  obtain ⟨d, hd⟩ := fnV_ok hf hl hk
  refine ⟨d, ?_, (hd w).2, rfl⟩
  simp only [Sem.run_bind, (hd w).1, Result.andThen_ok]

theorem dfr_ok (r : R P tab g h w) {vs : List V} {c : Value} {cs : List Value} (hl : LR P g h.tok vs (c :: cs)) {rs : Rs} {h1 : H} (he : exDfr h vs = some (rs, h1)) :
    OpOut P tab g h w n0 rs h1 ((do pure (.defer (← Deferred.ofValue c cs.toArray)) : Sem Next).run P w) := by
  obtain ⟨f, us, rfl, hf, hl⟩ := hl.invc
  have hk : (∃ id caps, f = .fn id caps) ∧ rs = .dfr f us ∧ h1 = h := by
    cases f <;> simp only [exDfr] at he <;> first
      | cases he; done
      | skip
    simp only [Option.some.injEq, Prod.mk.injEq] at he
    exact ⟨⟨_, _, rfl⟩, he.1.symm, he.2.symm⟩
  obtain ⟨hk, rfl, rfl⟩ := hk
  obtain ⟨d, hd⟩ := fnV_ok hf hl (.inl hk)
  refine ⟨d, ?_, (hd w).2, rfl, hk⟩
  simp only [Sem.run_bind, (hd w).1, Result.andThen_ok]
  rfl

theorem pan_ok (r : R P tab g h w) {vs : List V} {c : Value} (hl : LR P g h.tok vs [c]) {rs : Rs} {h1 : H} (he : exPan h vs = some (rs, h1)) :
    OpOut P tab g h w n0 rs h1 ((liftV (Instr.panic c)).run P w) := by
  obtain ⟨u, rfl, hu⟩ := hl.inv1
  cases u <;> simp only [exPan] at he <;> first
    | cases he; done
    | skip
  simp only [Option.some.injEq, Prod.mk.injEq] at he
  obtain ⟨rfl, rfl⟩ := he
  refine ⟨c, ?_, hu, rfl⟩
  simp only [VR] at hu
  obtain ⟨y, rfl, _⟩ := hu
  rfl

theorem recov_ok (r : R P tab g h w) {vs : List V} {rs : Rs} {h1 : H} (he : exRecov h vs = some (rs, h1)) :
    OpOut P tab g h w n0 rs h1 ((pure .recover : Sem Next).run P w) := by
  cases vs with
  | nil =>
    simp only [exRecov, Option.some.injEq, Prod.mk.injEq] at he
    obtain ⟨rfl, rfl⟩ := he
    exact ⟨rfl, rfl⟩
  | cons v vs => simp [exRecov] at he
end

end Go.Sim

