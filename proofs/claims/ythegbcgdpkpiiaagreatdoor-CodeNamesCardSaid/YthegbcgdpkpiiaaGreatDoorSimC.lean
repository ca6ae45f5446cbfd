/- One operation of the evaluator's is one of the machine's: those that write or lay memory; every one. Conditions: none. -/
import Derived.Test.YthegbcgdpkpiiaaGreatDoorSimB
import Derived.Laws.CopyRow
import Derived.Laws.MakeOwn
import Derived.Lib.ConvBytes
import Derived.Lib.UnsafeStr
import Derived.ArgAppend
import Derived.Lib.FrozenHead
set_option linter.all false
/- One operation of the evaluator's is one of the machine's: those that lay or write memory. Conditions: none. -/
set_option linter.unusedSimpArgs false
set_option linter.unusedVariables false
namespace Go.Sim

section
variable {P : Program} {tab : Tab} {g : G} {h : H} {w : World} {n0 : Nat} {tok : Toks}

mutual
theorem constV_ne_junk : ∀ (v : Value) (x : V), constV v = some x → x ≠ .junk
  | .bool b, x, hx => by simp only [constV] at hx; cases hx; simp
  | .int k n, x, hx => by simp only [constV] at hx; cases hx; simp
  | .string s, x, hx => by simp only [constV] at hx; cases hx; simp
  | .pointer none, x, hx => by simp only [constV] at hx; cases hx; simp
  | .slice none 0 0, x, hx => by simp only [constV] at hx; cases hx; simp
  | .nilFunc, x, hx => by simp only [constV] at hx; cases hx; simp
  | .nilIface, x, hx => by simp only [constV] at hx; cases hx; simp
  | .agg ⟨cs⟩, x, hx => by
    simp only [constV, Option.map_eq_some_iff] at hx
    obtain ⟨ys, hy, rfl⟩ := hx; simp
  | .tuple ⟨cs⟩, x, hx => by
    simp only [constV, Option.map_eq_some_iff] at hx
    obtain ⟨ys, hy, rfl⟩ := hx; simp
  | .pointer (some _), x, hx => by simp [constV] at hx
  | .slice (some _) _ _, x, hx => by simp [constV] at hx
  | .slice none (_ + 1) _, x, hx => by simp [constV] at hx
  | .slice none 0 (_ + 1), x, hx => by simp [constV] at hx
  | .float _ _, x, hx | .complex _ _ _, x, hx | .map _, x, hx | .chan _, x, hx | .func _ _ _, x, hx | .iface _ _, x, hx => by simp [constV] at hx
end

theorem zero_cells {t : Nat} {z : V} (hz : zeroOf P t = some z) (w : World) : ∃ c, (zeroValue t).run P w = .ok c w ∧ LR P g tok z.asCells c.cells.toList ∧ ∃ i, P.info? t = some i ∧ i.zero = some c := by
  obtain ⟨c, h1, h2, i, h3, h4⟩ := run_zero (g := g) (tok := tok) hz w
  refine ⟨c, h1, h2.asCells ?_, i, h3, h4⟩
  simp only [zeroOf, Option.bind_eq_some_iff] at hz
  obtain ⟨i', _, c', _, hx⟩ := hz
  exact constV_ne_junk _ _ hx

theorem all_one_ne_junk {x : V} (h1 : x.asCells.all V.one = true) : x ≠ .junk := by
  rintro rfl; simp [V.asCells, V.one] at h1

theorem new_ok (r : R P tab g h w) (hn : n0 ≤ h.blk.length) {vs : List V} {rs : Rs} {h1 : H} {t : Nat} {z : V} (hz : zeroOf P t = some z) (he : exNew t z.asCells h vs = some (rs, h1)) :
    OpOut P tab g h w n0 rs h1 ((liftV (Instr.alloc t true (.tuple #[]))).run P w) := by
  cases vs with
  | cons v vs => simp [exNew] at he
  | nil =>
    simp only [exNew, Option.some.injEq, Prod.mk.injEq] at he
    obtain ⟨rfl, rfl⟩ := he
    obtain ⟨c, h2, h3, _⟩ := zero_cells (g := g) (tok := h.tok) hz w
    obtain ⟨g', r', k, hv, _⟩ := r.new hn (ty := t) h3
    refine ⟨.pointer (some ⟨w.heap.size, 0, none⟩), _, g', liftV_ok ?_, r', k, hv⟩
    simp [Instr.alloc, h2, newVar, newRow]

theorem box_ok (r : R P tab g h w) (hn : n0 ≤ h.blk.length) {vs : List V} {a : Value} (hl : LR P g h.tok vs [a]) {rs : Rs} {h1 : H} {t sz : Nat} (he : exBox t sz h vs = some (rs, h1)) :
    OpOut P tab g h w n0 rs h1 ((liftV (Instr.box t a)).run P w) := by
  obtain ⟨u, rfl, hu⟩ := hl.inv1
  simp only [exBox] at he
  split at he
  · rename_i hq
    simp only [Option.some.injEq, Prod.mk.injEq] at he
    obtain ⟨rfl, rfl⟩ := he
    obtain ⟨g', r', k, hv, _⟩ := r.new hn (ty := t) (hu.asCells (all_one_ne_junk hq.2))
    refine ⟨.pointer (some ⟨w.heap.size, 0, none⟩), _, g', liftV_ok ?_, r', k, hv⟩
    simp [Instr.box, newVar, newRow]
  · cases he

-- ---------------------------------------------------------------- filling
theorem foldl_set : ∀ (xs : List Value) (k off : Nat) (cells : Array Value), off + k + xs.length ≤ cells.size →
    ((xs.zipIdx k).foldl (fun cs (p : Value × Nat) => cs.setIfInBounds (off + p.2) p.1) cells).toList = cells.toList.take (off + k) ++ xs ++ cells.toList.drop (off + k + xs.length)
  | [], k, off, cells, _ => by simp
  | x :: xs, k, off, cells, hk => by
    simp only [List.length_cons] at hk
    simp only [List.zipIdx_cons, List.foldl_cons]
    rw [show off + (x, k).2 = off + k from rfl]
    rw [foldl_set xs (k + 1) off _ (by simp; omega)]
    simp only [Array.toList_setIfInBounds, List.length_cons]
    have hlt : off + k < cells.toList.length := by rw [Array.length_toList]; omega
    rw [show off + (k + 1) = off + k + 1 by omega, List.take_add_one]
    simp only [List.getElem?_set_self hlt, Option.toList_some, List.take_set_of_le (Nat.le_refl _)]
    rw [List.drop_set_of_lt (by omega)]
    simp only [List.append_assoc, List.cons_append, List.nil_append]
    rw [show off + k + 1 + xs.length = off + k + (xs.length + 1) by omega]

theorem fill_ok (place : Nat → Option (Nat × Nat)) : ∀ (is : List Nat) (pl : List (Nat × Nat)) (vs : List V) (cs : List Value) (z z' : List V) (zc : Array Value),
    (∀ (j i : Nat), is[j]? = some i → place i = pl[j]?) → is.length = pl.length → LR P g tok vs cs → LR P g tok z zc.toList → fillV z pl vs = some z' →
    ∃ zc', Instr.fill place zc (is.zip cs) = some zc' ∧ LR P g tok z' zc'.toList
  | [], pl, vs, cs, z, z', zc, _, hlen, hl, hz, hf => by
    cases pl with
    | cons p pl => simp at hlen
    | nil => cases vs with
      | cons v vs => simp [fillV] at hf
      | nil =>
        simp only [fillV, Option.some.injEq] at hf; subst hf
        exact ⟨zc, by simp [Instr.fill], hz⟩
  | i :: is, pl, vs, cs, z, z', zc, hp, hlen, hl, hz, hf => by
    cases pl with
    | nil => simp at hlen
    | cons p pl => cases vs with
      | nil => simp [fillV] at hf
      | cons v vs =>
        obtain ⟨off, sz⟩ := p
        simp only [LR] at hl
        obtain ⟨c, cs', rfl, hv, hl⟩ := hl
        simp only [fillV] at hf
        split at hf
        · rename_i hq
          obtain ⟨q1, q2, q3⟩ := hq
          have hc := hv.asCells (all_one_ne_junk q3)
          have hcl : c.cells.size = sz := by rw [← q1, hc.length]; simp
          have hzl : z.length = zc.size := by rw [hz.length]; simp
          have hplace := hp 0 i (by simp)
          simp only [List.getElem?_cons_zero] at hplace
          have hfold := foldl_set c.cells.toList 0 off zc (by simp; omega)
          obtain ⟨zc', h1, h2⟩ := fill_ok place is pl vs cs' (putAt z off v.asCells) z' (c.cells.zipIdx.foldl (fun cs (p : Value × Nat) => cs.setIfInBounds (off + p.2) p.1) zc)
            (fun j i' hj => by simpa using hp (j + 1) i' (by simpa using hj)) (by simpa using hlen) hl
            (by
              have := hz.set hc off (by rw [q1]; omega)
              rw [← Array.foldl_toList, Array.toList_zipIdx, hfold]
              simpa using this) hf
          refine ⟨zc', ?_, h2⟩
          simp only [List.zip_cons_cons, Instr.fill, hplace]
          rw [if_neg (by simp [hcl]; omega)]
          exact h1
        · cases hf

theorem zip_map {α β γ : Type} (f : α → β × γ) (l : List α) : (l.map fun x => (f x).1).zip (l.map fun x => (f x).2) = l.map f := by
  induction l with
  | nil => rfl
  | cons x l ih => simp [ih]

theorem build_ok (r : R P tab g h w) {vs : List V} {ps : Array (Nat × Operand)} {ρ : Operand → Value} (hl : LR P g h.tok vs ((ps.toList.map (·.2)).map ρ)) {rs : Rs} {h1 : H} {t : Nat} {z : V} {pl : List (Nat × Nat)}
    (hz : zeroOf P t = some z) (hp : places P t (ps.toList.map (·.1)) = some pl) (he : exBuild z.asCells pl h vs = some (rs, h1)) :
    OpOut P tab g h w n0 rs h1 ((liftV (Instr.build t (ps.map fun (i, x) => (i, ρ x)))).run P w) := by
  refine voutO r he fun v hv => ?_
  simp only [Option.map_eq_some_iff] at hv
  obtain ⟨z', hf, rfl⟩ := hv
  obtain ⟨c, _, h3, it, hit, hiz⟩ := zero_cells (g := g) (tok := h.tok) hz w
  have hparts : (ps.map fun (i, x) => (i, ρ x)).toList = (ps.toList.map (·.1)).zip ((ps.toList.map (·.2)).map ρ) := by
    rw [Array.toList_map, List.map_map]
    exact (zip_map (fun p : Nat × Operand => (p.1, ρ p.2)) ps.toList).symm
  have key : ∃ zc', P.built t (ps.map fun (i, x) => (i, ρ x)).toList = some zc' ∧ LR P g h.tok z' zc'.toList := by
    rw [hparts]
    unfold places at hp
    unfold Program.built
    split at hp
    · rename_i fs hu
      simp only [Option.bind_eq_some_iff] at hp
      obtain ⟨all, hall, hp⟩ := hp
      obtain ⟨q1, q2⟩ := allSome_map _ _ _ hp
      simp only [hit, hu, hiz, hall]
      exact fill_ok _ _ pl vs _ _ z' c.cells (fun j i hj => by
        obtain ⟨y, hy, hy'⟩ := q2 j i hj
        rw [hy]; simpa using hy') q1.symm hl h3 hf
    · rename_i n e hu
      simp only [sizeB, Option.map_eq_some_iff] at hp
      obtain ⟨n, ⟨ie, hie, rfl⟩, rfl⟩ := hp
      simp only [hit, hu, hiz, hie]
      exact fill_ok _ _ _ vs _ _ z' c.cells (fun j i hj => by simp only [List.getElem?_map, hj, Option.map_some]) (by simp) hl h3 hf
    · cases hp
  obtain ⟨zc', h4, h5⟩ := key
  refine ⟨.agg zc', liftV_ok (run_build w t _ zc' h4), ?_⟩
  simp only [VR]
  exact ⟨zc'.toList, by simp, h5⟩

theorem madeCells_flat (z : Array Value) (s : Nat) (hs : z.size = s) : ∀ n : Nat, (madeCells z (n * s)).toList = (List.replicate n z.toList).flatten
  | 0 => by simp [madeCells]
  | n + 1 => by
    rw [List.replicate_succ, List.flatten_cons, ← madeCells_flat z s hs n]
    simp only [madeCells, Array.toList_map, Array.toList_range]
    rw [show (n + 1) * s = s + n * s by rw [Nat.add_mul]; omega, List.range_add, List.map_append, List.map_map]
    congr 1
    · apply List.ext_getElem
      · simp [hs]
      · intro i h1 h2
        simp at h1 h2
        have : i % z.size = i := Nat.mod_eq_of_lt (by omega)
        simp [this]
        rw [getElem!_pos z i (by omega)]
    · apply List.map_congr_left
      intro i _
      simp [hs]

theorem LR.flat {z : List V} {zc : List Value} (hz : LR P g tok z zc) : ∀ n : Nat, LR P g tok (List.replicate n z).flatten (List.replicate n zc).flatten
  | 0 => by simp [LR]
  | n + 1 => by
    rw [List.replicate_succ, List.replicate_succ, List.flatten_cons, List.flatten_cons]
    exact hz.append (hz.flat n)

/-- A row of cells that never change. -/
theorem R.rowAll (r : R P tab g h w) {ty : Nat} {arr : Array Value} {fz : Nat × Nat} (w' : World) (hw : w'.heap = (w.alloc (.cells arr ty fz)).heap) (n0 : Nat) (hio : (w'.os, w'.output) = (w.os, w.output) := by rfl) :
    ∃ g', R P tab g' h w' ∧ Keeps n0 g h g' h [] [] ∧ (∀ o v, arr[o]? = some v → g'.at w.heap.size o = some v) := by
  obtain ⟨h1, h2⟩ := r.row (n0 := n0) (f := fun o => arr[o]?) (t := none) (tk := g.tk) (tok' := h.tok) w' hw (fun o v hv => hv)
    (fun t m ty hm => ⟨m, hm, Nat.le_refl _, fun _ => rfl⟩) (fun t' m' ty' hm => .inl ⟨hm, rfl⟩) hio
  refine ⟨_, h1, h2, fun o v hv => ?_⟩
  simp only [G.at, G.row, upd_same]
  exact hv

theorem CR.of_at {cs : List V} {vs : List Value} (hl : LR P g tok cs vs) {B o : Nat} (ha : ∀ (j : Nat) (v : Value), vs[j]? = some v → g.at B (o + j) = some v) : CR P g tok cs B o :=
  CR.of_get fun i v hv => by
    obtain ⟨c, hc, hr⟩ := hl.get hv
    exact ⟨c, ha i c hc, hr⟩

theorem buildSl_ok (r : R P tab g h w) {vs : List V} {ps : Array (Nat × Operand)} {ρ : Operand → Value} (hl : LR P g h.tok vs ((ps.toList.map (·.2)).map ρ)) {rs : Rs} {h1 : H} {t e n len : Nat} {z : V}
    (ht : P.underlying t = some (.slice e)) (hn : sizeB P e = some n) (hn0 : ¬ (n = 0 ∨ len * n > 2 ^ 24)) (hz : zeroOf P e = some z) (hzl : z.asCells.length = n)
    (he : exBuildSl len (List.replicate len z.asCells).flatten (ps.toList.map fun p => (p.1 * n, n)) h vs = some (rs, h1)) :
    OpOut P tab g h w n0 rs h1 ((liftV (Instr.buildSlice t len (ps.map fun (i, x) => (i, ρ x)))).run P w) := by
  obtain ⟨v, hv, rfl, rfl⟩ := valO_some he
  simp only [Option.map_eq_some_iff] at hv
  obtain ⟨z', hf, rfl⟩ := hv
  obtain ⟨c, hc, h3, it, hit, hiz⟩ := zero_cells (g := g) (tok := h1.tok) hz w
  have hcs : c.cells.size = n := by rw [← hzl, h3.length]; simp
  have hparts : (ps.map fun (i, x) => (i, ρ x)).toList = (ps.toList.map (·.1)).zip ((ps.toList.map (·.2)).map ρ) := by
    rw [Array.toList_map, List.map_map]
    exact (zip_map (fun p : Nat × Operand => (p.1, ρ p.2)) ps.toList).symm
  have hflat := madeCells_flat c.cells n hcs len
  obtain ⟨zc', h4, h5⟩ := fill_ok (fun i => some (i * n, n)) (ps.toList.map (·.1)) _ vs _ _ z' (madeCells c.cells (len * n)) (fun j i hj => by
    simp only [List.getElem?_map, Option.map_eq_some_iff] at hj ⊢
    obtain ⟨p, hp, rfl⟩ := hj
    simp [hp]) (by simp) hl (by rw [hflat]; exact h3.flat len) hf
  have hrun : (Instr.buildSlice t len (ps.map fun (i, x) => (i, ρ x))).run P w = .ok (.slice (some ⟨w.heap.size, 0, none⟩) len len) (w.alloc (.cells zc' e)) := by
    have hsmall : ¬ len * n > 2 ^ 24 := fun hh => hn0 (.inr hh)
    unfold Instr.buildSlice
    simp only [Sem.run_bind, run_underlying ht, Result.andThen_ok, run_size hn, hsmall, if_false, Sem.run_pure]
    rw [hparts]
    by_cases hz0 : len * n = 0
    · have h00 : ∀ z, madeCells z 0 = #[] := fun z => by simp [madeCells]
      rw [hz0, h00 c.cells, ← h00 #[]] at h4
      simp only [madeCells] at h4
      simp only [hz0, if_true, Sem.run_bind, Sem.run_pure, Result.andThen_ok]
      rw [h4]
      rfl
    · simp only [madeCells] at h4
      simp only [if_neg hz0, Sem.run_bind, hc, Result.andThen_ok, Sem.run_pure]
      rw [h4]
      rfl
  obtain ⟨g', r', k, ha⟩ := r.rowAll (ty := e) (arr := zc') (fz := (0, 0)) (w.alloc (.cells zc' e)) rfl n0
  refine ⟨_, _, g', liftV_ok hrun, r', k, ?_⟩
  simp only [VR]
  refine ⟨_, len, rfl, .inr ⟨w.heap.size, 0, rfl, ?_⟩, ⟨Nat.le_refl _, by simp⟩, rfl⟩
  exact CR.of_at (LR.mono k.ext _ _ h5) fun j v hv => by rw [Nat.zero_add]; exact ha j v (by simpa using hv)

end

end Go.Sim

/- One operation of the evaluator's is one of the machine's: stores, texts, rows. Conditions: none. -/
set_option linter.unusedSimpArgs false
set_option linter.unusedVariables false
namespace Go.Sim
open Go.Lib

section
variable {P : Program} {tab : Tab} {g : G} {h : H} {w : World} {n0 : Nat} {tok : Toks}

theorem LR.oneCell : ∀ {vs : List V} {cs : List Value}, LR P g tok vs cs → vs.all V.one = true → ∀ v ∈ cs, v.oneCell' = true
  | [], cs, hl, _, v, hv => by simp only [LR] at hl; subst hl; simp at hv
  | x :: vs, cs, hl, h1, v, hv => by
    simp only [LR] at hl
    obtain ⟨c, cs', rfl, hx, hl⟩ := hl
    simp only [List.all_cons, Bool.and_eq_true] at h1
    rcases List.mem_cons.1 hv with rfl | hv
    · exact hx.oneCell h1.1
    · exact hl.oneCell h1.2 v hv

theorem Keeps.store {b ty : Nat} {cs : List V} (hb : h.blk[b]? = some (ty, cs)) (o : Nat) (ds : List V) (hlen : o + ds.length ≤ cs.length) {es et : Es}
    (hy : b < n0 → V.yrefsL ds = [] ∧ (∀ r ∈ V.brefsL ds, b < r → (b, r) ∈ es) ∧ ∀ t ∈ V.trefsL ds, (b, t) ∈ et) : Keeps n0 g h g (setBlk h b (putAt cs o ds)) es et where
  ext := Ext.refl _ _
  len := by simp [setBlk]
  back := fun _ _ h => h
  blk := fun b' ty' cs' hb' hcs => by
    simp only [setBlk, List.getElem?_modify] at hcs
    by_cases hbb : b = b'
    · subst hbb
      simp only [if_true, hb, Option.map_some, Option.some.injEq, Prod.mk.injEq] at hcs
      obtain ⟨rfl, rfl⟩ := hcs
      refine ⟨cs, hb, fun i c hc => ?_⟩
      unfold putAt at hc
      rw [List.append_assoc] at hc
      rcases Nat.lt_or_ge i o with hi | hi
      · left
        rw [List.getElem?_append_left (by simp; omega), List.getElem?_take] at hc
        simpa [hi] using hc
      · rw [List.getElem?_append_right (by simp; omega)] at hc
        simp only [List.length_take, Nat.min_eq_left (show o ≤ cs.length by omega)] at hc
        rcases Nat.lt_or_ge (i - o) ds.length with hj | hj
        · right
          rw [List.getElem?_append_left hj] at hc
          obtain ⟨k1, k2, k3⟩ := hy hb'
          exact ⟨yrefsL_nil k1 hc, fun r hr hlt => k2 r (mem_brefsL hc hr) hlt, fun t ht => k3 t (mem_trefsL hc ht)⟩
        · left
          rw [List.getElem?_append_right hj, List.getElem?_drop] at hc
          rw [← hc]; congr 1; omega
    · simp only [hbb, if_false, Option.map_id_fun', id] at hcs
      exact ⟨cs', by simpa using hcs, fun _ _ hc => .inl hc⟩
  lpl := rfl
  lps := fun _ p h => ⟨p, h, rfl⟩

theorem store_ok (r : R P tab g h w) {vs : List V} {a x : Value} (hl : LR P g h.tok vs [a, x]) {rs : Rs} {h1 : H} {t sz : Nat} (hn : sizeB P t = some sz) (he : exStore sz n0 h vs = some (rs, h1)) :
    OpOut P tab g h w n0 rs h1 ((do Instr.storeAt t a x; pure .skip : Sem Next).run P w) := by
  obtain ⟨u, v, rfl, hu, hv⟩ := hl.inv2
  cases u <;> simp only [exStore] at he <;> first
    | cases he; done
    | skip
  rename_i b o
  simp only [VR] at hu
  obtain ⟨rfl, ho⟩ := hu
  split at he
  · rename_i ct hb
    obtain ⟨ty, cs⟩ := ct
    simp only at he
    split at he
    · rename_i hq
      obtain ⟨q1, q2, q3⟩ := hq
      obtain ⟨cvs, hh, hl'⟩ := r.blk b ty cs hb ho
      have hc := hv.asCells (all_one_ne_junk q3)
      have hcl : x.cells.toList.length = sz := by rw [← q1, hc.length]
      have hsz : x.cells.size = sz := by simpa using hcl
      have hbound : o + x.cells.toList.length ≤ cvs.length := by rw [hcl, ← hl'.length]; exact q2
      have hst := run_storeCells_at (P := P) (g.phi b) o ty x.cells.toList 0 cvs.toArray w hh (by simpa using hbound) (hc.oneCell q3)
      simp only [Nat.add_zero] at hst
      have hrun : (do Instr.storeAt t (.pointer (some ⟨g.phi b, o, none⟩)) x; pure .skip : Sem Next).run P w =
          .ok .skip (w.setRow (g.phi b) (cvs.take o ++ x.cells.toList ++ cvs.drop (o + x.cells.toList.length)).toArray) := by
        simp only [Instr.storeAt, Instr.sureAddr, storeVar, Sem.run_bind, Sem.run_pure, Result.andThen_ok, run_size hn, hsz, ne_eq, not_true_eq_false, if_false, hst]
      have r' : R P tab g (setBlk h b (putAt cs o v.asCells)) (w.setRow (g.phi b) (cvs.take o ++ x.cells.toList ++ cvs.drop (o + x.cells.toList.length)).toArray) :=
        r.store hb ho (hl'.set hc o (by rw [q1]; exact q2)) _ (by simp) (fun k hk => setRow_other w _ k _ hk) (setRow_heap w _ _ _ ty (0, 0) hh)
      split at he
      · rename_i hbn
        split at he
        · cases he
        · rename_i hy
          simp only [Option.some.injEq, Prod.mk.injEq] at he
          obtain ⟨rfl, rfl⟩ := he
          refine ⟨_, g, hrun, r', Keeps.store hb o _ (by rw [q1]; exact q2) fun _ => ⟨by simpa using hy, fun r0 hr hlt => ?_, fun t0 ht => ?_⟩⟩
          · simp only [List.mem_map, List.mem_filter]
            exact ⟨r0, ⟨hr, by simpa using hlt⟩, rfl⟩
          · exact List.mem_map.2 ⟨t0, ht, rfl⟩
      · rename_i hbn
        simp only [Option.some.injEq, Prod.mk.injEq] at he
        obtain ⟨rfl, rfl⟩ := he
        exact ⟨_, g, hrun, r', Keeps.store hb o _ (by rw [q1]; exact q2) fun hlt => absurd hlt hbn⟩
    · cases he
  · cases he

-- ---------------------------------------------------------------- text to bytes
theorem bytesWorld_heap (w : World) (e : TypeId) (s : ByteArray) : (bytesWorld w e s).heap = (w.alloc (.cells (bytesCells w e s) e ((bytesCells w e s).size, (bytesCells w e s).size + 1))).heap := by
  apply Array.ext_getElem?
  intro j
  rcases Nat.lt_trichotomy j w.heap.size with hj | hj | hj
  · rw [bytesWorld_at_old w e s j hj, heap_alloc_old w _ j hj]
  · subst hj; rw [bytesWorld_at_new, heap_alloc_new]
  · rw [Array.getElem?_eq_none (by rw [bytesWorld_size]; omega), Array.getElem?_eq_none (by simp; omega)]

theorem s2b_ok (r : R P tab g h w) {vs : List V} {c : Value} (hl : LR P g h.tok vs [c]) {rs : Rs} {h1 : H} (he : exS2b h vs = some (rs, h1)) {src dst e : Nat}
    (hs : P.underlying src = some .string) (hd : P.underlying dst = some (.slice e)) (hee : P.underlying e = some (.int .u8)) : OpOut P tab g h w n0 rs h1 ((liftV (convert src dst c)).run P w) := by
  obtain ⟨u, rfl, hu⟩ := hl.inv1
  cases u <;> simp only [exS2b] at he <;> first
    | cases he; done
    | skip
  simp only [VR] at hu
  obtain ⟨s, rfl, rfl⟩ := hu
  simp only [val, Option.some.injEq, Prod.mk.injEq] at he
  obtain ⟨rfl, rfl⟩ := he
  have hrun := run_convert_string_bytes (P := P) w src dst e s hs hd hee
  obtain ⟨g', r', k, ha⟩ := r.rowAll (bytesWorld w e s) (bytesWorld_heap w e s) n0
  refine ⟨_, _, g', liftV_ok hrun, r', k, ?_⟩
  simp only [VR]
  rw [natsOf_length]
  have hcap : s.size ≤ grownCap w s.size 0 e := by
    unfold grownCap; simp only [Question.cut]; omega
  refine ⟨_, _, rfl, .inr ⟨w.heap.size, 0, rfl, ?_⟩, ⟨hcap, by simp⟩, trivial⟩
  refine CR.of_get fun i v hv => ?_
  simp only [List.getElem?_map, Option.map_eq_some_iff, natsOf] at hv
  obtain ⟨b, ⟨y, hy, rfl⟩, rfl⟩ := hv
  have hlt := (List.getElem?_eq_some_iff.1 hy).1
  refine ⟨.int .u8 y.toNat, ha _ _ ?_, by simp only [b8, VR]⟩
  simp only [Array.getElem?_toList] at hy
  simp only [bytesCells, Nat.zero_add]
  rw [Array.getElem?_append_left (by simpa using hlt)]
  simp [hy]
end

end Go.Sim

/- One operation of the evaluator's is one of the machine's: bytes to text, rows with room. Conditions: none. -/
set_option linter.unusedSimpArgs false
set_option linter.unusedVariables false
namespace Go.Sim
open Go.Lib

section
variable {P : Program} {tab : Tab} {g : G} {h : H} {w : World} {n0 : Nat} {tok : Toks}

/-- A row frozen below its mark. -/
theorem R.refrz (r : R P tab g h w) {B ty : Nat} {f : Nat → Option Value} {t : Option Nat} (hB : g.own B = .row ty f t) {arr : Array Value} {fz fz' : Nat × Nat} (harr : w.heap[B]? = some (.cells arr ty fz))
    (hfz : fz'.2 ≤ fz.2 ∨ ∃ j v, f j = some v ∧ fz'.2 ≤ j + 1)
    (w' : World) (hsz : w'.heap.size = w.heap.size) (hoth : ∀ j, j ≠ B → w'.heap[j]? = w.heap[j]?) (hself : w'.heap[B]? = some (.cells arr ty fz')) (hio : (w'.os, w'.output) = (w.os, w.output) := by rfl) : R P tab g h w' := by
  have hne : ∀ B', (∀ f' t', g.own B' ≠ .row ty f' t') → w'.heap[B']? = w.heap[B']? := fun B' hB' => hoth B' fun e => hB' f t (e ▸ hB)
  constructor
  · intro b ty' cs hb ho
    rw [hne _ (by rw [ho]; simp)]; exact r.blk b ty' cs hb ho
  · intro B' o ho; rw [hne _ (by rw [ho]; simp)]; exact r.oOld B' o ho
  · exact r.oBlk
  · intro B' ty' f' t' ho
    by_cases e : B' = B
    · subst e; rw [hB] at ho; cases ho
      obtain ⟨arr', fz0, h1, h2⟩ := r.oRow _ _ _ _ hB
      rw [harr] at h1; cases h1
      exact ⟨arr, fz', hself, h2⟩
    · rw [hoth _ e]; exact r.oRow B' ty' f' t' ho
  · exact r.oLp
  · intro B' ho; rw [hne _ (by rw [ho]; simp)]; exact r.oDfr B' ho
  · intro B' hB'; exact r.fresh B' (by omega)
  · intro t' m ty' hm
    obtain ⟨h1, f', h2, h3, arr', fz0, h4, h5, h6⟩ := r.tok t' m ty' hm
    by_cases e : (g.tk t').blk = B
    · rw [e] at h2 h4
      rw [hB] at h2; cases h2
      rw [harr] at h4; cases h4
      refine ⟨h1, f, by rw [e]; exact hB, h3, arr, fz', by rw [e]; exact hself, h5, ?_⟩
      rcases hfz with hfz | ⟨j, v, hj, hfz⟩
      · omega
      · rcases Nat.lt_or_ge j (m * P.cellsOf ty) with hlt | hge
        · omega
        · rw [h3 j hge] at hj; cases hj
    · exact ⟨h1, f', h2, h3, arr', fz0, by rw [hoth _ e]; exact h4, h5, h6⟩
  · intro l p hp
    obtain ⟨lc, h1, h2, h3⟩ := r.lps l p hp
    exact ⟨lc, h1, by rw [hne _ (by rw [h1]; simp)]; exact h2, h3⟩
  · exact hio.trans r.io

theorem liesAt_from {e : TypeId} (hc : P.cellsOf e = 1) (count o n : Nat) (hn : o + n ≤ count) : liesAt P P.depth e count o e n = true := by
  have hd : P.depth = (2 * (P.types.size + Made.depth) + 1) + 1 := rfl
  rw [hd]
  simp only [liesAt, Bool.or_eq_true]
  left
  rw [hd]
  simp [rowAt, hc, hn, sameLayout, Nat.mod_one]

theorem freeze_other (w : World) (a : Addr) (n j : Nat) (hj : j ≠ a.block) : (w.freeze a n).heap[j]? = w.heap[j]? := by
  unfold World.freeze
  split
  · rfl
  · simp [Array.getElem?_modify, Ne.symm hj]

theorem freeze_self (w : World) (B o n : Nat) (arr : Array Value) (ty : Nat) (fz : Nat × Nat) (h0 : n ≠ 0) (harr : w.heap[B]? = some (.cells arr ty fz)) :
    (w.freeze ⟨B, o, none⟩ n).heap[B]? = some (.cells arr ty (if fz.1 == fz.2 then (o, o + n) else (min fz.1 o, max fz.2 (o + n)))) := by
  unfold World.freeze
  rw [if_neg h0]
  simp [Array.getElem?_modify, harr]

theorem strData_ok (r : R P tab g h w) {vs : List V} {a b : Value} (hl : LR P g h.tok vs [a, b]) {rs : Rs} {h1 : H} {e : Nat} (he : exStrData e h vs = some (rs, h1)) {pt it ty : Nat}
    (hp : P.underlying pt = some (.pointer e)) (hn : sizeB P e = some 1) : OpOut P tab g h w n0 rs h1 ((liftV (Builtin.unsafeString_ #[pt, it] ty #[a, b])).run P w) := by
  obtain ⟨u, v, rfl, hu, hv⟩ := hl.inv2
  unfold exStrData at he
  split at he
  · rename_i heq
    cases heq
    rename_i u cs k n
    split at he
    · rename_i hq
      obtain ⟨rfl, hn0, hnl, hnr⟩ := hq
      obtain ⟨v, hv', rfl, rfl⟩ := valO_some he
      simp only [Option.map_eq_some_iff] at hv'
      obtain ⟨bs, hbs, rfl⟩ := hv'
      simp only [VR] at hu hv
      obtain ⟨B, o, f, t, rfl, hc, hB⟩ := hu
      subst hv
      have hcell : P.cellsOf u = 1 := cellsOf_size hn
      obtain ⟨ds, hl1, hl2⟩ := CR.cw r _ B o (hc.take n)
      obtain ⟨h3, h4⟩ := bytes_cells _ ds bs hl1 hbs
      have hlen : bs.length = n := by
        have := hl1.length
        rw [h3] at this
        simp at this; omega
      obtain ⟨arr, fz, harr, hfa⟩ := r.oRow _ _ _ _ hB
      -- the last cell
      obtain ⟨cl, hcl, _⟩ := hc.get (i := n - 1) (v := cs[n - 1]'(by omega)) (by rw [List.getElem?_eq_getElem])
      have hfl : f (o + (n - 1)) = some cl := by simpa only [G.at, hB] using hcl
      have hsz : o + n ≤ arr.size := by
        have := (Array.getElem?_eq_some_iff.1 (hfa _ _ hfl)).1; omega
      have hsh : w.shape? B = some (u, arr.size) := by simp [World.shape?, harr]
      let l : List UInt8 := bs.map UInt8.ofNat
      have hll : l.length = n := by simp [l, hlen]
      have hlb := run_loadBytes (P := P) w l ⟨B, o, none⟩ .empty (fun j x hj => by
        rw [addr_add]
        simp only [l, List.getElem?_map, Option.map_eq_some_iff] at hj
        obtain ⟨y, hy, rfl⟩ := hj
        have hlt := h4 y (List.mem_of_getElem? hy)
        refine hl2 j _ ?_
        rw [h3]
        simp [hy, UInt8.toNat_ofNat', Nat.mod_eq_of_lt hlt])
      rw [hll] at hlb
      have hlies := liesAt_from (P := P) hcell (arr.size / P.cellsOf u) o n (by rw [hcell]; simpa using hsz)
      have hdef : Builtin.unsafeString_ #[pt, it] ty #[.pointer (some ⟨B, o, none⟩), .int k (Int.ofNat n)] =
          (do
            let n ← asInt (.int k (Int.ofNat n))
            if n < 0 then runtimePanic (.error "unsafe.String: len out of range")
            if n > IntKind.i64.max then unsupported (.unsafePointer "String: a length above the largest int")
            if n = 0 then pure (.string .empty)
            else if ← variablesAt ⟨B, o, none⟩ (← elemOf pt) n.toNat then do
              let s ← loadBytes ⟨B, o, none⟩ .empty n.toNat
              freeze ⟨B, o, none⟩ n.toNat
              pure (.string s)
            else unsupported (.unsafePointer "String: not so many bytes at ptr")) := rfl
      have hmax : IntKind.i64.max = 9223372036854775807 := rfl
      have h63 : ¬ (9223372036854775807 : Int) < (n : Int) := by simp only [roomMost] at hnr; omega
      have hz : ¬ n = 0 := by omega
      have hneg : ¬ (n : Int) < 0 := by omega
      have hrun : (Builtin.unsafeString_ #[pt, it] ty #[.pointer (some ⟨B, o, none⟩), .int k (Int.ofNat n)]).run P w = .ok (.string ⟨l.toArray⟩) (w.freeze ⟨B, o, none⟩ n) := by
        rw [hdef]
        simp [asInt, asIntOf, hmax, h63, hz, hneg, variablesAt, hsh, elemOf, run_underlying hp, hlies, hlb]
      refine ⟨_, _, g, liftV_ok hrun, ?_, Keeps.refl _ _ _, ?_⟩
      · refine r.refrz hB harr ?_ _ ?_ (fun j hj => freeze_other w _ _ j hj) (freeze_self w B o n arr u fz hz harr) (by unfold World.freeze; split <;> rfl)
        · split
          · exact .inr ⟨_, _, hfl, by simp only; omega⟩
          · rcases Nat.le_total fz.2 (o + n) with hle | hle
            · exact .inr ⟨_, _, hfl, by simp only; omega⟩
            · exact .inl (by simp only; omega)
        · unfold World.freeze; split <;> simp
      · simp only [VR]
        refine ⟨_, rfl, ?_⟩
        simp only [natsOf, l]
        apply List.ext_getElem
        · simp
        · intro i h1 h2
          have := h4 bs[i] (List.getElem_mem h1)
          simp [UInt8.toNat_ofNat', Nat.mod_eq_of_lt this]
    · cases he
  · cases he

-- ---------------------------------------------------------------- rows with room
/-- A row that grows: a token's new row. -/
theorem R.grown (r : R P tab g h w) {t N ty cap : Nat} {tok' : Toks} (h1 : ∀ t', t' ≠ t → tok'[t']? = h.tok[t']?) (h2 : tok'[t]? = some (N, ty)) (h3 : ∀ m ty', h.tok[t]? = some (m, ty') → ty' = ty ∧ m < N)
    {es : List V} {us rest : List Value} (hl : LR P g h.tok es us) (hcap : N ≤ cap) (hus : us.length = N * P.cellsOf ty) (hsz : (us ++ rest).length = cap * P.cellsOf ty)
    (w' : World) (hw : w'.heap = (w.alloc (.cells (us ++ rest).toArray ty)).heap) (n0 : Nat) (hio : (w'.os, w'.output) = (w.os, w.output) := by rfl) :
    ∃ g', R P tab g' { h with tok := tok' } w' ∧ Keeps n0 g h g' { h with tok := tok' } [] [] ∧ VR P g' tok' (.sl N es (.tok t N)) (.slice (some ⟨w.heap.size, 0, none⟩) N cap) := by
  let f : Nat → Option Value := fun o => if o < N * P.cellsOf ty then (us ++ rest)[o]? else none
  let tk : Nat → TkI := upd g.tk t ⟨w.heap.size, cap⟩
  obtain ⟨k1, k2⟩ := r.row (n0 := n0) (arr := (us ++ rest).toArray) (fz := (0, 0)) (ty := ty) (f := f) (t := some t) (tk := tk) (tok' := tok') w' hw
    (fun o v hv => by
      simp only [f] at hv
      split at hv
      · simpa using hv
      · cases hv)
    (fun t' m ty' hm => by
      by_cases e : t' = t
      · subst e
        obtain ⟨rfl, hlt⟩ := h3 m ty' hm
        exact ⟨N, h2, by omega, fun e => absurd e (by omega)⟩
      · exact ⟨m, by rw [h1 t' e]; exact hm, Nat.le_refl _, fun _ => by simp only [tk]; rw [upd_other _ _ e]⟩)
    (fun t' m' ty' hm => by
      by_cases e : t' = t
      · subst e
        rw [h2] at hm; cases hm
        refine .inr ⟨rfl, rfl, by simp only [tk, upd_same]; exact hcap, by simp only [tk, upd_same], ?_, fun j hj => ?_, by simp⟩
        · simp only [tk, upd_same]; rw [List.size_toArray]; exact hsz
        · simp only [f]; rw [if_neg (by omega)]
      · exact .inl ⟨by rw [← h1 t' e]; exact hm, by simp only [tk]; rw [upd_other _ _ e]⟩) hio
  refine ⟨_, k1, k2, ?_⟩
  simp only [VR]
  refine ⟨_, cap, rfl, .inr ⟨w.heap.size, 0, rfl, ?_⟩, ⟨hcap, by simp⟩, ?_⟩
  · refine CR.of_at (LR.mono k2.ext _ _ hl) fun j v hv => ?_
    have hlt := (List.getElem?_eq_some_iff.1 hv).1
    simp only [G.at, G.row, upd_same, f, Nat.zero_add]
    rw [if_pos (by omega), List.getElem?_append_left hlt]; exact hv
  · simp only [GrR]
    refine ⟨N, ty, h2, Nat.le_refl _, fun _ => ⟨0, ?_, by omega, ?_, ?_⟩⟩
    · simp only [G.row, tk, upd_same]
    · simp only [G.row, tk, upd_same]; omega
    · simp only [G.row, tk, upd_same]; exact hcap

theorem mkS_ok (r : R P tab g h w) (hn : n0 ≤ h.blk.length) {vs : List V} {a b : Value} (hl : LR P g h.tok vs [a, b]) {rs : Rs} {h1 : H} {t e : Nat} {i : TypeInfo} {z : V}
    (ht : P.underlying t = some (.slice e)) (hi : P.info? e = some i) (hz : zeroOf P e = some z) (hzl : z.asCells.length = i.size) (he : exMkS e i.size i.bytes z.asCells h vs = some (rs, h1)) :
    OpOut P tab g h w n0 rs h1 ((liftV (Instr.makeSlice t a b)).run P w) := by
  obtain ⟨u, v, rfl, hu, hv⟩ := hl.inv2
  unfold exMkS at he
  split at he
  · rename_i heq
    cases heq
    rename_i kl l kc c
    simp only [VR] at hu hv; subst hu hv
    obtain ⟨zc, _, hzc, i', hi', hzz⟩ := zero_cells (g := g) (tok := h.tok) hz w
    rw [hi] at hi'; cases hi'
    have hzs : zc.cells.size = i.size := by rw [← hzl, hzc.length]; simp
    have hce : P.cellsOf e = i.size := by simp [Program.cellsOf, hi]
    split at he
    · rename_i hq
      obtain ⟨q1, q2, q3⟩ := hq
      have hc0 : ((c.toNat : Nat) : Int) = c := Int.toNat_of_nonneg (by omega)
      have hb : (i.bytes : Int) * c ≤ 281474976710656 := by
        have h4 : c.toNat * i.bytes ≤ (c.toNat + 1) * (i.bytes + 1) := Nat.mul_le_mul (by omega) (by omega)
        rw [← hc0]
        have : ((i.bytes * c.toNat : Nat) : Int) ≤ 281474976710656 := by
          rw [Nat.mul_comm]; simp only [roomMost] at q3; omega
        simpa using this
      have h63 : c ≤ 9223372036854775807 := by
        have h4 : (c.toNat + 1) * 1 ≤ (c.toNat + 1) * (i.bytes + 1) := Nat.mul_le_mul_left _ (by omega)
        simp only [roomMost] at q3; omega
      have hrun := run_make (P := P) w t e i zc ht hi hzz kl kc l c q1 q2 hb h63
      have hflat := madeCells_flat zc.cells i.size hzs c.toNat
      split at he
      · rename_i hc
        simp only [val, Option.some.injEq, Prod.mk.injEq] at he
        obtain ⟨rfl, rfl⟩ := he
        obtain ⟨g', r', k, ha⟩ := r.rowAll (ty := e) (arr := madeCells zc.cells (c.toNat * i.size)) (fz := (0, 0)) (w.alloc (.cells (madeCells zc.cells (c.toNat * i.size)) e)) rfl n0
        refine ⟨_, _, g', liftV_ok hrun, r', k, ?_⟩
        have hl0 : l = 0 := by omega
        subst hc hl0
        simp only [VR]
        exact ⟨_, 0, rfl, .inl trivial, ⟨Nat.le_refl _, by simp⟩, rfl⟩
      · rename_i hc
        split at he
        · rename_i hl0
          subst hl0
          simp only [Option.some.injEq, Prod.mk.injEq] at he
          obtain ⟨rfl, rfl⟩ := he
          obtain ⟨g', r', k, hv⟩ := r.grown (t := h.tok.length) (N := 0) (ty := e) (cap := c.toNat) (tok' := h.tok ++ [(0, e)]) (es := []) (us := []) (rest := (madeCells zc.cells (c.toNat * i.size)).toList)
            (fun t' ht' => by
              rcases Nat.lt_or_ge t' h.tok.length with hlt | hge
              · rw [List.getElem?_append_left hlt]
              · rw [List.getElem?_eq_none (by simp; omega), List.getElem?_eq_none hge]) (by simp)
            (fun m ty' hm => by rw [List.getElem?_eq_none (Nat.le_refl _)] at hm; cases hm) (by simp only [LR]) (by omega) (by simp) (by simp [hce, size_madeCells])
            (w.alloc (.cells (madeCells zc.cells (c.toNat * i.size)) e)) (by simp) n0
          exact ⟨_, _, g', liftV_ok hrun, r', k, hv⟩
        · rename_i hl0
          simp only [Option.some.injEq, Prod.mk.injEq] at he
          obtain ⟨rfl, rfl⟩ := he
          obtain ⟨g', r', k, _, hphi, hown⟩ := r.new hn (ty := e) (hzc.flat c.toNat)
          have harr : (List.replicate c.toNat zc.cells.toList).flatten.toArray = madeCells zc.cells (c.toNat * i.size) := by rw [← hflat]
          rw [harr] at r'
          refine ⟨_, _, g', liftV_ok hrun, r', k, ?_⟩
          simp only [VR, hphi]
          exact ⟨trivial, by omega, hown⟩
    · cases he
  · cases he
end

end Go.Sim

/- One operation of the evaluator's is one of the machine's: append. Conditions: none. -/
set_option linter.unusedSimpArgs false
set_option linter.unusedVariables false
namespace Go.Sim
open Go.Lib

section
variable {P : Program} {tab : Tab} {g : G} {h : H} {w : World} {n0 : Nat} {tok : Toks}

/-- What the second argument's type may be. -/
def notInt (P : Program) (u : Nat) : Prop := P.underlying u = some .string ∨ ∃ e, P.underlying u = some (.slice e)

theorem append_stay {t u ty e : TypeId} {i : TypeInfo} (ht : P.underlying t = some (.slice e)) (hu : notInt P u) (hi : P.info? e = some i) {base : Option Addr} {sLen sCap n : Nat} {x : Value} {news : List Value} {w' : World}
    (hlen : (Builtin.lenOf x).run P w = .ok n w) (hf : (Builtin.firstCells i.size n x).run P w = .ok news.toArray w) (hroom : sLen + n ≤ sCap)
    (hst : ∀ a, base = some a → (storeCells (a.add (sLen * i.size)) news).run P w = .ok () w') (hnone : base = none → w' = w) :
    (Builtin.append_ #[t, u] ty #[.slice base sLen sCap, x]).run P w = .ok (.slice base (sLen + n) sCap) w' := by
  cases base with
  | none =>
    rw [hnone rfl]
    rcases hu with hu | ⟨e', hu⟩
    · simp [Builtin.append_, run_underlying ht, run_underlying hu, sizeOf, typeInfo, hi, hlen, hroom, hf]
    · simp [Builtin.append_, run_underlying ht, run_underlying hu, sizeOf, typeInfo, hi, hlen, hroom, hf]
  | some a =>
    have hst := hst a rfl
    rcases hu with hu | ⟨e', hu⟩
    · simp [Builtin.append_, run_underlying ht, run_underlying hu, sizeOf, typeInfo, hi, hlen, hroom, hf, hst]
    · simp [Builtin.append_, run_underlying ht, run_underlying hu, sizeOf, typeInfo, hi, hlen, hroom, hf, hst]

theorem append_grow {t u ty e : TypeId} {i : TypeInfo} {z : Value} (ht : P.underlying t = some (.slice e)) (hu : notInt P u) (hi : P.info? e = some i) (hz : i.zero = some z) {base : Option Addr} {sLen sCap n : Nat} {x : Value} {olds news : List Value}
    (hlen : (Builtin.lenOf x).run P w = .ok n w) (hf : (Builtin.firstCells i.size n x).run P w.drew = .ok news.toArray w.drew) (hfo : (Builtin.firstCells i.size sLen (.slice base sLen sCap)).run P w.drew = .ok olds.toArray w.drew)
    (hroom : ¬ sLen + n ≤ sCap) (h63 : sLen + n ≤ 9223372036854775807) (hfit : Builtin.nextslicecap (sLen + n) sCap * i.bytes ≤ 281474976710656) :
    (Builtin.append_ #[t, u] ty #[.slice base sLen sCap, x]).run P w =
      .ok (.slice (some ⟨w.heap.size, 0, none⟩) (sLen + n) (grownCap w (sLen + n) sCap e))
        (w.drew.alloc (.cells (olds ++ news ++ (Builtin.zeroCells z.cells (grownCap w (sLen + n) sCap e - (sLen + n))).toList).toArray e)) := by
  have h63' : ¬ (9223372036854775807 < ((sLen : Int) + (n : Int))) := by omega
  have h48' : ¬ (281474976710656 < Builtin.nextslicecap (sLen + n) sCap * i.bytes) := by omega
  rcases hu with hu | ⟨e', hu⟩
  all_goals
    simp [Builtin.append_, run_underlying ht, run_underlying hu, sizeOf, typeInfo, zeroValue, hi, hz, hlen, hroom, h63', h48', Question.forced, hf, hfo, newRow, grownCap]
    congr 2
    apply Array.ext'
    simp [List.append_assoc]

/-- The elements of a slice, as append reads them. -/
theorem first_sl (r : R P tab g h w) {x : V} {cx : Value} {n s : Nat} {cs : List V} (hx : VR P g h.tok x cx) (hc : x.elems h = some (n, cs)) (hl : cs.length = n * s) :
    ∃ a k vs, cx = .slice a n k ∧ n ≤ k ∧ LR P g h.tok cs vs ∧ (∀ w', w'.heap = w.heap → (Builtin.firstCells s n cx).run P w' = .ok vs.toArray w') ∧ ∀ w', (Builtin.lenOf cx).run P w' = .ok n w' := by
  obtain ⟨a, k, rfl, hnk, hcs⟩ := elems_ok r hx hc
  have hlen : ∀ w', (Builtin.lenOf (.slice a n k)).run P w' = .ok n w' := fun w' => rfl
  rcases hcs with rfl | ⟨B, o, rfl, hcw⟩
  · refine ⟨a, k, [], rfl, hnk, by simp only [LR], fun w' _ => ?_, hlen⟩
    have h0 : n * s = 0 := by simpa using hl.symm
    cases a with
    | none => rfl
    | some a => simp only [Builtin.firstCells, h0]; rfl
  · obtain ⟨vs, h1, h2⟩ := hcw
    refine ⟨_, k, vs, rfl, hnk, h1, fun w' hw' => ?_, hlen⟩
    simp only [Builtin.firstCells]
    rw [← hl, h1.length]
    exact run_loadCells_cw fun j c hj => by
      have := h2 j c hj
      simpa [World.cell?, hw'] using this

theorem src_ok (r : R P tab g h w) {y : V} {cy : Value} {k s : Nat} {ds : List V} (hy : VR P g h.tok y cy) (hs : srcOf h y = some (k, ds)) (hl : ds.length = k * s) :
    ∃ vs, LR P g h.tok ds vs ∧ (∀ w', w'.heap = w.heap → (Builtin.firstCells s k cy).run P w' = .ok vs.toArray w') ∧ ∀ w', (Builtin.lenOf cy).run P w' = .ok k w' := by
  by_cases hst : ∃ s, y = .str s
  · obtain ⟨t, rfl⟩ := hst
    simp only [srcOf, Option.some.injEq, Prod.mk.injEq] at hs
    obtain ⟨rfl, rfl⟩ := hs
    simp only [VR] at hy
    obtain ⟨b, rfl, rfl⟩ := hy
    rw [natsOf_length]
    refine ⟨b.data.toList.map fun x => .int .u8 x.toNat, ?_, fun w' _ => ?_, fun w' => rfl⟩
    · refine LR.of_get (by simp [natsOf]) fun i v c hv hc => ?_
      simp only [natsOf, List.map_map, List.getElem?_map, Option.map_eq_some_iff, Function.comp] at hv hc
      obtain ⟨x, hx, rfl⟩ := hv
      obtain ⟨x', hx', rfl⟩ := hc
      rw [hx] at hx'; cases hx'
      simp only [b8, VR]
    · have hext : b.extract 0 b.size = b := by
        apply ByteArray.ext
        simp
      simp only [Builtin.firstCells, hext]
      have : (b.data.map fun x => Value.int .u8 x.toNat) = (b.data.toList.map fun x => Value.int .u8 x.toNat).toArray := by
        apply Array.ext'; simp
      rw [this]; rfl
  · have : srcOf h y = y.elems h := by
      cases y <;> first | rfl | exact absurd ⟨_, rfl⟩ hst
    rw [this] at hs
    obtain ⟨a, c, vs, rfl, _, h1, h2, h3⟩ := first_sl r hy hs hl
    exact ⟨vs, h1, h2, h3⟩


/-- A slice that grows into a token's new row. -/
theorem grow_ok (r : R P tab g h w) {t u ty e : TypeId} {i : TypeInfo} (ht : P.underlying t = some (.slice e)) (hu : notInt P u) (hi : P.info? e = some i) (hzs : (i.zero.map fun z => z.cells.size) = some i.size)
    {cx cy : Value} {n k : Nat} {cs ds : List V} {a : Option Addr} {c : Nat} (hcx : cx = .slice a n c) {olds news : List Value} (hlo : LR P g h.tok cs olds) (hln : LR P g h.tok ds news) (hcl : cs.length = n * i.size) (hdl : ds.length = k * i.size)
    (hfo : ∀ w' : World, w'.heap = w.heap → (Builtin.firstCells i.size n cx).run P w' = .ok olds.toArray w') (hf : ∀ w' : World, w'.heap = w.heap → (Builtin.firstCells i.size k cy).run P w' = .ok news.toArray w') (hlen : ∀ w', (Builtin.lenOf cy).run P w' = .ok k w')
    (hroom : c < n + k) (hsmall : (n + k + 1) * (i.bytes + 1) < roomMost) {tk : Nat} {tok' : Toks} (h1 : ∀ t', t' ≠ tk → tok'[t']? = h.tok[t']?) (h2 : tok'[tk]? = some (n + k, e)) (h3 : ∀ m ty', h.tok[tk]? = some (m, ty') → ty' = e ∧ m < n + k) :
    OpOut P tab g h w n0 (.val (.sl (n + k) (cs ++ ds) (.tok tk (n + k)))) { h with tok := tok' } ((liftV (Builtin.append_ #[t, u] ty #[cx, cy])).run P w) := by
  obtain ⟨z, hz, hzc⟩ := Option.map_eq_some_iff.1 hzs
  subst hcx
  have hce : P.cellsOf e = i.size := by simp [Program.cellsOf, hi]
  have hge : n + k ≤ grownCap w (n + k) c e := by
    unfold grownCap; simp only [Question.cut]; omega
  have hb : (n + k) * i.bytes ≤ 140737488355328 := by
    have : (n + k) * i.bytes ≤ (n + k + 1) * (i.bytes + 1) := Nat.mul_le_mul (by omega) (by omega)
    simp only [roomMost] at hsmall; omega
  have h63 : n + k ≤ 9223372036854775807 := by
    have : (n + k + 1) * 1 ≤ (n + k + 1) * (i.bytes + 1) := Nat.mul_le_mul_left _ (by omega)
    simp only [roomMost] at hsmall; omega
  have hrun := append_grow (P := P) (w := w) (t := t) (u := u) (ty := ty) ht hu hi hz (base := a) (sLen := n) (sCap := c) (hlen w) (hf w.drew rfl) (hfo w.drew rfl) (by omega) h63 (growslice_fits (by omega) hb)
  have hol : olds.length = n * i.size := by rw [← hlo.length, hcl]
  have hnl : news.length = k * i.size := by rw [← hln.length, hdl]
  obtain ⟨g', r', kp, hv⟩ := r.grown (t := tk) (N := n + k) (ty := e) (cap := grownCap w (n + k) c e) (tok' := tok') (es := cs ++ ds) (us := olds ++ news) (rest := (Builtin.zeroCells z.cells (grownCap w (n + k) c e - (n + k))).toList)
    h1 h2 h3 (hlo.append hln) hge (by rw [List.length_append, hol, hnl, hce, Nat.add_mul])
    (by
      rw [List.length_append, List.length_append, hol, hnl, hce, Array.length_toList, size_zeroCells, hzc, ← Nat.add_mul, ← Nat.add_mul]
      congr 1; omega) (w.drew.alloc (.cells (olds ++ news ++ (Builtin.zeroCells z.cells (grownCap w (n + k) c e - (n + k))).toList).toArray e)) rfl n0
  exact ⟨_, _, g', liftV_ok hrun, r', kp, hv⟩

theorem append_ok (r : R P tab g h w) {vs : List V} {a b : Value} (hl : LR P g h.tok vs [a, b]) {rs : Rs} {h1 : H} {t u ty e : Nat} {i : TypeInfo} (ht : P.underlying t = some (.slice e)) (hu : notInt P u) (hi : P.info? e = some i)
    (hzs : (i.zero.map fun z => z.cells.size) = some i.size) (he : exAppend e i.size i.bytes h vs = some (rs, h1)) : OpOut P tab g h w n0 rs h1 ((liftV (Builtin.append_ #[t, u] ty #[a, b])).run P w) := by
  obtain ⟨x, y, rfl, hx, hy⟩ := hl.inv2
  have hce : P.cellsOf e = i.size := by simp [Program.cellsOf, hi]
  simp only [exAppend] at he
  split at he
  · rename_i k ds hsrc
    split at he
    · rename_i hq
      obtain ⟨hdl, hone⟩ := hq
      obtain ⟨news, hln, hf, hlen⟩ := src_ok r hy hsrc hdl
      have hnl : news.length = k * i.size := by rw [← hln.length, hdl]
      unfold exAppend1 at he
      split at he
      · rename_i n cs gr
        have hel : (V.sl n cs gr).elems h = some (n, cs) := rfl
        split at he
        · rename_i hk0
          subst hk0
          simp only [val, Option.some.injEq, Prod.mk.injEq] at he
          obtain ⟨rfl, rfl⟩ := he
          have hx0 := hx
          simp only [VR] at hx
          obtain ⟨a0, c, rfl, _, hnc, _⟩ := hx
          have hn0 : news = [] := by simpa using hnl
          subst hn0
          have hrun := append_stay (P := P) (w := w) (t := t) (u := u) (ty := ty) (w' := w) ht hu hi (base := a0) (sLen := n) (sCap := c) (hlen w) (hf w rfl) (by omega) (fun a _ => rfl) (fun _ => rfl)
          exact ⟨_, w, g, liftV_ok hrun, r, Keeps.refl _ _ _, hx0⟩
        · rename_i hk0
          split at he
          · rename_i hq
            obtain ⟨hcl, hsmall⟩ := hq
            have hx0 := hx
            obtain ⟨a', c', olds, hea, _, hlo, hfo, _⟩ := first_sl r hx hel hcl
            simp only [VR] at hx
            obtain ⟨a0, c, hax, hcs, hnc, hgr⟩ := hx
            have fresh : ∀ t', t' ≠ h.tok.length → (h.tok ++ [(n + k, e)])[t']? = h.tok[t']? := fun t' ht' => by
              rcases Nat.lt_or_ge t' h.tok.length with hlt | hge
              · rw [List.getElem?_append_left hlt]
              · rw [List.getElem?_eq_none (by simp; omega), List.getElem?_eq_none hge]
            split at he
            · cases he
            · cases he
            · simp only [Option.some.injEq, Prod.mk.injEq] at he
              obtain ⟨rfl, rfl⟩ := he
              simp only [GrR] at hgr
              exact grow_ok r ht hu hi hzs hax hlo hln hcl hdl hfo hf hlen (by omega) hsmall fresh (by simp) (fun m ty' hm => by rw [List.getElem?_eq_none (Nat.le_refl _)] at hm; cases hm)
            · simp only [Option.some.injEq, Prod.mk.injEq] at he
              obtain ⟨rfl, rfl⟩ := he
              simp only [GrR] at hgr
              exact grow_ok r ht hu hi hzs hax hlo hln hcl hdl hfo hf hlen (by omega) hsmall fresh (by simp) (fun m ty' hm => by rw [List.getElem?_eq_none (Nat.le_refl _)] at hm; cases hm)
            · rename_i tk e'
              split at he
              · rename_i hq
                obtain ⟨htk, rfl⟩ := hq
                simp only [Option.some.injEq, Prod.mk.injEq] at he
                obtain ⟨rfl, rfl⟩ := he
                have hlt : tk < h.tok.length := (List.getElem?_eq_some_iff.1 htk).1
                by_cases hroom : e' + k ≤ c
                · simp only [GrR] at hgr
                  obtain ⟨m, ty0, hm, _, hfull⟩ := hgr
                  rw [htk] at hm; cases hm
                  obtain ⟨o, rfl, k1, k2, k3⟩ := hfull rfl
                  obtain ⟨p1, f, p2, p3, arr, fz, p4, p5, p6⟩ := r.tok tk e' e htk
                  have hoo : o = 0 := by omega
                  subst hoo
                  have hcap : (e' + k) * i.size ≤ (g.tk tk).cap * i.size := Nat.mul_le_mul_right _ (by omega)
                  have hbound : e' * i.size + news.length ≤ arr.size := by
                    rw [p5, hce, hnl, ← Nat.add_mul]; exact hcap
                  have hst := run_storeCells_atF P (g.tk tk).blk (e' * i.size) e fz news 0 arr w p4 (by rw [hce] at p6; omega) (by omega) (hln.oneCell hone)
                  simp only [Nat.add_zero] at hst
                  have hsub : a = .slice (some ⟨(g.tk tk).blk, 0, none⟩) e' c := hax
                  subst hsub
                  have hrun := append_stay (P := P) (w := w) (t := t) (u := u) (ty := ty) ht hu hi (base := some ⟨(g.tk tk).blk, 0, none⟩) (sLen := e') (sCap := c) (hlen w) (hf w rfl) hroom
                    (fun a ha => by cases ha; rw [addr_add, Nat.zero_add]; exact hst) (fun hh => by cases hh)
                  obtain ⟨g', r', kp, htk', hat⟩ := r.fill (n0 := n0) (k := k) htk (by omega) (us := news) (by rw [hce]; exact hnl) (by omega) p4 _ (by simp) (fun j hj => setRow_other w _ j _ hj)
                    (by rw [hce]; exact setRow_heap w _ _ _ e fz p4)
                  refine ⟨_, _, g', liftV_ok hrun, r', kp, ?_⟩
                  simp only [VR]
                  refine ⟨_, c, rfl, .inr ⟨_, 0, rfl, ?_⟩, ⟨hroom, by simp⟩, ?_⟩
                  · refine CR.append ?_ ?_
                    · rcases hcs with rfl | ⟨B, o, hB, hc⟩
                      · simp only [CR]
                      · cases hB; exact CR.mono kp.ext _ _ _ hc
                    · refine CR.of_at (LR.mono kp.ext _ _ hln) fun j v hv => ?_
                      have := hat j v hv
                      rw [hce] at this
                      rw [hcl, Nat.zero_add]; exact this
                  · simp only [GrR]
                    refine ⟨e' + k, e, by simp [hlt], Nat.le_refl _, fun _ => ⟨0, by rw [htk'], by omega, by rw [htk']; omega, by rw [htk']; omega⟩⟩
                · refine grow_ok r ht hu hi hzs hax hlo hln hcl hdl hfo hf hlen (by omega) hsmall (tk := tk) (fun t' ht' => by rw [List.getElem?_set_ne (Ne.symm ht')]) (by simp [hlt]) (fun m ty' hm => ?_)
                  rw [htk] at hm; cases hm
                  exact ⟨rfl, by omega⟩
              · cases he
          · cases he
      · rename_i b0 o n c e'
        split at he
        · rename_i hq
          obtain ⟨rfl, hsmall, hroom⟩ := hq
          split at he
          · rename_i m cs hel
            simp only [Option.some.injEq, Prod.mk.injEq] at he
            obtain ⟨rfl, rfl⟩ := he
            have hm : m = n ∧ cs.length = n * i.size := by
              simp only [V.elems, Option.bind_eq_some_iff] at hel
              obtain ⟨q, _, hq⟩ := hel
              split at hq
              · rename_i hle
                simp only [Option.some.injEq, Prod.mk.injEq] at hq
                obtain ⟨rfl, rfl⟩ := hq
                exact ⟨rfl, by simp; omega⟩
              · cases hq
            obtain ⟨rfl, hcl⟩ := hm
            obtain ⟨a', c', olds, hea, hnc, hlo, hfo, _⟩ := first_sl r hx hel hcl
            simp only [VR] at hx
            obtain ⟨hax, _⟩ := hx
            exact grow_ok r ht hu hi hzs hax hlo hln hcl hdl hfo hf hlen hroom hsmall (fun t' ht' => by
              rcases Nat.lt_or_ge t' h.tok.length with hlt | hge
              · rw [List.getElem?_append_left hlt]
              · rw [List.getElem?_eq_none (by simp; omega), List.getElem?_eq_none hge]) (by simp) (fun m ty' hm => by rw [List.getElem?_eq_none (Nat.le_refl _)] at hm; cases hm)
          · cases he
        · cases he
      · cases he
    · cases he
  · cases he
end

end Go.Sim

/- One operation of the evaluator's is one of the machine's. Conditions: none. -/
set_option linter.unusedSimpArgs false
set_option linter.unusedVariables false
namespace Go.Sim

section
variable {P : Program} {tab : Tab} {g : G} {h : H} {w : World} {n0 : Nat}

theorem one_some {a a' : A} {xs : List Operand} {os : List O} (hc : (operands tab xs).map (fun ys => (a, ys)) = some (a', os)) : a = a' ∧ operands tab xs = some os := by
  simp only [Option.map_eq_some_iff, Prod.mk.injEq] at hc
  obtain ⟨ys, h1, rfl, rfl⟩ := hc
  exact ⟨rfl, h1⟩

theorem ex_ok (r : R P tab g h w) (ht : TabOK P tab g) {tm : Tm} {a : Act} (hr : TR P g h.tok tm a.tmps) (hn : n0 ≤ h.blk.length) {o : Oper} {A : A} {os : List O} (hc : opA P tab o.op = some (A, os))
    {rs : Rs} {h1 : H} (he : ex n0 A (os.map (O.ev tm)) h = some (rs, h1)) : OpOut P tab g h w n0 rs h1 ((execOp a.eval o).run P w) := by
  have ops : ∀ {xs : List Operand} {os : List O}, operands tab xs = some os → LR P g h.tok (os.map (O.ev tm)) (xs.map a.eval) := fun hx => operands_ok ht hr hx
  unfold execOp
  cases hop : o.op <;> rw [hop] at hc <;> simp only [opA, reduceCtorEq] at hc
  case move x => obtain ⟨rfl, hx⟩ := one_some hc; exact mov_ok r (ops hx) he
  case assign x => obtain ⟨rfl, hx⟩ := one_some hc; exact mov_ok r (ops hx) he
  case pick c x y => obtain ⟨rfl, hx⟩ := one_some hc; exact pick_ok r (ops hx) he
  case alloc t =>
    simp only [Option.bind_eq_some_iff] at hc
    obtain ⟨z, hz, hc⟩ := hc
    obtain ⟨rfl, hx⟩ := one_some hc
    exact new_ok r hn hz he
  case box t x =>
    simp only [Option.bind_eq_some_iff] at hc
    obtain ⟨n, hz, hc⟩ := hc
    obtain ⟨rfl, hx⟩ := one_some hc
    exact box_ok r hn (ops hx) he
  case build t ps =>
    simp only [Option.bind_eq_some_iff] at hc
    obtain ⟨z, hz, pl, hp, hc⟩ := hc
    obtain ⟨rfl, hx⟩ := one_some hc
    exact build_ok r (ops hx) hz hp he
  case buildSlice t len ps =>
    split at hc
    · rename_i e hu
      simp only [Option.bind_eq_some_iff] at hc
      obtain ⟨n, hn, hc⟩ := hc
      split at hc
      · cases hc
      · rename_i hn0
        simp only [Option.bind_eq_some_iff] at hc
        obtain ⟨z, hz, hc⟩ := hc
        split at hc
        · cases hc
        · rename_i hzl
          obtain ⟨rfl, hx⟩ := one_some hc
          exact buildSl_ok r (ops hx) hu hn hn0 hz (by simpa using hzl) he
    · cases hc
  case load t x =>
    simp only [Option.bind_eq_some_iff] at hc
    obtain ⟨b, hb, n, hn, hc⟩ := hc
    obtain ⟨rfl, hx⟩ := one_some hc
    exact load_ok r (ops hx) hb hn he
  case store t x y =>
    simp only [Option.bind_eq_some_iff] at hc
    obtain ⟨n, hn, hc⟩ := hc
    obtain ⟨rfl, hx⟩ := one_some hc
    exact store_ok r (ops hx) hn he
  case nilCheck x =>
    obtain ⟨rfl, hx⟩ := one_some hc
    have := nilc_ok (o := o) (ρ := a.eval) r (ops hx) he hop rfl (n0 := n0)
    unfold execOp at this
    simpa only [hop] using this
  case unOp op t x => obtain ⟨rfl, hx⟩ := one_some hc; exact un_ok r (ops hx) he
  case binOp op t x y z =>
    have key : ∀ kd, KdOK P t kd → A = .bin op kd → operands tab [x, y] = some os → OpOut P tab g h w n0 rs h1 ((liftV (do eqGuard op t x y (a.eval x) (a.eval y); binOp op t (a.eval x) (a.eval y))).run P w) := by
      rintro kd hk rfl hx
      exact bin_ok r (ops hx) hk he
    split at hc
    · split at hc
      · obtain ⟨h1, hx⟩ := one_some hc
        exact key .ptr ⟨_, _, by assumption, by assumption⟩ h1.symm hx
      · cases hc
    · obtain ⟨h1, hx⟩ := one_some hc; exact key .bool (by assumption) h1.symm hx
    · obtain ⟨h1, hx⟩ := one_some hc; exact key .none trivial h1.symm hx
    · obtain ⟨h1, hx⟩ := one_some hc; exact key .none trivial h1.symm hx
    · obtain ⟨h1, hx⟩ := one_some hc; exact key .ifc ⟨_, by assumption⟩ h1.symm hx
    · obtain ⟨h1, hx⟩ := one_some hc; exact key .sl ⟨_, by assumption⟩ h1.symm hx
    · cases hc
  case convert src dst x =>
    simp only [Option.bind_eq_some_iff] at hc
    obtain ⟨A', hA, hc⟩ := hc
    obtain ⟨rfl, hx⟩ := one_some hc
    unfold convA at hA
    split at hA
    · cases hA; exact toInt_ok r (ops hx) he (by assumption) (by assumption)
    · cases hA; exact same_ok r (ops hx) he (by assumption) (by assumption)
    · split at hA
      · cases hA; exact s2b_ok r (ops hx) he (by assumption) (by assumption) (by assumption)
      · cases hA
    · split at hA
      · cases hA; exact b2s_ok r (ops hx) he (by assumption) (by assumption) (by assumption)
      · cases hA
    · split at hA
      · cases hA; exact toUns_ok r (ops hx) he (by assumption) (by assumption) (by assumption)
      · cases hA
    · split at hA
      · cases hA; exact fromUns_ok r (ops hx) he (by assumption) (by assumption) (by assumption)
      · cases hA
    · cases hA
  case makeInterface t x =>
    split at hc
    · cases hc
    · cases hc
    · rename_i h1 h2
      obtain ⟨rfl, hx⟩ := one_some hc
      cases hu : P.underlying t with
      | none => exact absurd hu h2
      | some d => exact mkI_ok r (ops hx) he hu fun ms e => h1 ms (by rw [hu, e])
  case makeFunc fn first caps =>
    obtain ⟨first⟩ := first
    cases fn <;> cases first <;> simp only [opA, reduceCtorEq] at hc
    obtain ⟨rfl, hx⟩ := one_some hc
    have := mkF_ok (n0 := n0) r (ops hx) he
    have hm : (caps.map a.eval) = (caps.toList.map a.eval).toArray := by apply Array.ext'; simp
    show OpOut P tab g h w n0 rs h1 ((liftV (Instr.makeFunc _ (Array.map a.eval #[]) (caps.map a.eval))).run P w)
    rw [hm]
    simpa using this
  case makeSlice t x y =>
    split at hc
    · simp only [Option.bind_eq_some_iff] at hc
      obtain ⟨i, hi, hc⟩ := hc
      split at hc
      · cases hc
      · simp only [Option.bind_eq_some_iff] at hc
        obtain ⟨z, hz, hc⟩ := hc
        split at hc
        · cases hc
        · rename_i hzl
          obtain ⟨rfl, hx⟩ := one_some hc
          exact mkS_ok r hn (ops hx) (by assumption) hi hz (by simpa using hzl) he
    · cases hc
  case slice t x lo hi mx =>
    have hl : ∀ o : Option Operand, (o.map a.eval).toList = o.toList.map a.eval := fun o => by cases o <;> rfl
    have hsm : ∀ o : Option Operand, (o.map a.eval).isSome = o.isSome := fun o => by cases o <;> rfl
    have key : ∀ {os}, operands tab ([x] ++ lo.toList ++ hi.toList ++ mx.toList) = some os → LR P g h.tok (os.map (O.ev tm)) (a.eval x :: ((lo.map a.eval).toList ++ (hi.map a.eval).toList ++ (mx.map a.eval).toList)) := fun hx => by
      have := ops hx
      simpa [hl, List.append_assoc] using this
    split at hc
    · split at hc
      · cases hc
      · rename_i hm
        obtain ⟨rfl, hx⟩ := one_some hc
        have hmn : mx = none := by cases mx <;> simp at hm ⊢
        subst hmn
        exact sliceStr_ok (lov := lo.map a.eval) (hiv := hi.map a.eval) r (key hx) (by assumption) (by rw [hsm, hsm]; exact he)
    · simp only [Option.bind_eq_some_iff] at hc
      obtain ⟨n, hn', hc⟩ := hc
      obtain ⟨rfl, hx⟩ := one_some hc
      exact sliceSl_ok (lov := lo.map a.eval) (hiv := hi.map a.eval) (mxv := mx.map a.eval) r (key hx) (by assumption) hn' (by rw [hsm, hsm, hsm]; exact he)
    · cases hc
  case fieldAddr t x f =>
    split at hc
    · simp only [Option.bind_eq_some_iff] at hc
      obtain ⟨fd, hf, n, hn', hc⟩ := hc
      split at hc
      · cases hc
      · obtain ⟨rfl, hx⟩ := one_some hc
        exact off_ok r (ops hx) (by assumption) hf hn' (by assumption) he
    · cases hc
  case field t x f =>
    split at hc
    · simp only [Option.bind_eq_some_iff] at hc
      obtain ⟨fd, hf, b, hb, n, hn', hc⟩ := hc
      obtain ⟨rfl, hx⟩ := one_some hc
      exact fld_ok r (ops hx) (by assumption) hf hb hn' he
    · cases hc
  case indexAddr t x y =>
    split at hc
    · simp only [Option.bind_eq_some_iff] at hc
      obtain ⟨n, hn', hc⟩ := hc
      obtain ⟨rfl, hx⟩ := one_some hc
      exact ixA_ok (arr := some _) r (ops hx) (by assumption) hn' he
    · simp only [Option.bind_eq_some_iff] at hc
      obtain ⟨n, hn', hc⟩ := hc
      obtain ⟨rfl, hx⟩ := one_some hc
      exact ixA_ok (arr := none) r (ops hx) (by assumption) hn' he
    · cases hc
  case index t x y =>
    split at hc
    · obtain ⟨rfl, hx⟩ := one_some hc
      exact ixS_ok r (ops hx) (by assumption) he
    · simp only [Option.bind_eq_some_iff] at hc
      obtain ⟨n, hn', b, hb, hc⟩ := hc
      obtain ⟨rfl, hx⟩ := one_some hc
      exact ixG_ok r (ops hx) (by assumption) hb hn' he
    · cases hc
  case extract x i =>
    obtain ⟨rfl, hx⟩ := one_some hc
    exact ext_ok r (ops hx) he
  case typeAssert x xt t ok =>
    split at hc
    · cases hc
    · cases hc
    · rename_i h1 h2
      simp only [Option.bind_eq_some_iff] at hc
      obtain ⟨z, hz, hc⟩ := hc
      obtain ⟨rfl, hx⟩ := one_some hc
      cases hu : P.underlying t with
      | none => exact absurd hu h2
      | some d => exact asrt_ok r (ops hx) he hu (fun ms e => h1 ms (by rw [hu, e])) hz
  case call c =>
    obtain ⟨callee, args, ats⟩ := c
    have hm : (args.map a.eval) = (args.toList.map a.eval).toArray := by apply Array.ext'; simp
    cases callee <;> simp only [opA, reduceCtorEq] at hc
    case value f =>
      obtain ⟨rfl, hx⟩ := one_some hc
      have := call_ok (n0 := n0) r (ops hx) he
      simpa only [resolve, hm] using this
    case builtin b =>
      simp only [Option.bind_eq_some_iff] at hc
      obtain ⟨A', hA, hc⟩ := hc
      obtain ⟨rfl, hx⟩ := one_some hc
      have hl := ops hx
      have hres : ∃ ks, (execOp a.eval o).run P w = (builtin b ats o.type ks (args.toList.map a.eval).toArray).run P w := by
        refine ⟨args.map fun | .const _ => true | _ => false, ?_⟩
        unfold execOp
        simp only [hop, resolve, Sem.run_bind, Sem.run_pure, Result.andThen_ok, invoke, hm]
        rfl
      obtain ⟨ks, hres⟩ := hres
      have hgoal : OpOut P tab g h w n0 rs h1 ((execOp a.eval o).run P w) := by
        rw [hres]
        generalize args.toList.map a.eval = cs at hl
        generalize os.map (O.ev tm) = vs at hl he
        have one : (∃ v, vs = [v]) → ∃ v c, vs = [v] ∧ cs = [c] := by
          rintro ⟨v, rfl⟩
          obtain ⟨c, rfl, _⟩ := hl.one
          exact ⟨v, c, rfl, rfl⟩
        have two : (∃ v u, vs = [v, u]) → ∃ v u c d, vs = [v, u] ∧ cs = [c, d] := by
          rintro ⟨v, u, rfl⟩
          obtain ⟨c, d, rfl, _⟩ := hl.two
          exact ⟨v, u, c, d, rfl, rfl⟩
        have hts : ∀ t, ats.toList[0]? = some t → ats[0]? = some t := fun t ht => by simpa using ht
        unfold builtinA at hA
        split at hA
        · split at hA
          · rename_i hu
            cases hA
            simp only [Option.bind_eq_some_iff] at hu
            obtain ⟨t, h2, hu⟩ := hu
            obtain ⟨v, c, rfl, rfl⟩ := one (by
              simp only [ex] at he; unfold exLen at he; split at he <;> first | exact ⟨_, rfl⟩ | cases he)
            exact len_ok r hl he (hts t h2) hu
          · rename_i e hu
            cases hA
            simp only [Option.bind_eq_some_iff] at hu
            obtain ⟨t, h2, hu⟩ := hu
            obtain ⟨v, c, rfl, rfl⟩ := one (by
              simp only [ex] at he; unfold exLen at he; split at he <;> first | exact ⟨_, rfl⟩ | cases he)
            exact len_ok r hl he (hts t h2) ⟨e, hu⟩
          · cases hA
        · split at hA
          · rename_i e hu
            cases hA
            simp only [Option.bind_eq_some_iff] at hu
            obtain ⟨t, h2, hu⟩ := hu
            obtain ⟨v, c, rfl, rfl⟩ := one (by
              simp only [ex] at he; unfold exCap at he; split at he <;> first | exact ⟨_, rfl⟩ | cases he)
            exact cap_ok r hl he (hts t h2) hu
          · cases hA
        · split at hA
          · rename_i t u hats
            have hats' : ats = #[t, u] := by apply Array.ext'; rw [hats]
            have key : ∀ e, P.underlying t = some (.slice e) → notInt P u →
                ((P.info? e).bind fun i => if i.size = 0 ∨ (i.zero.map fun z => z.cells.size) ≠ some i.size then none else some (A.append e i.size i.bytes)) = some A' →
                OpOut P tab g h w n0 rs h1 ((builtin .append ats o.type ks cs.toArray).run P w) := by
              intro e ht hu hA
              simp only [Option.bind_eq_some_iff] at hA
              obtain ⟨i, hi, hA⟩ := hA
              split at hA
              · cases hA
              · rename_i hz
                cases hA
                obtain ⟨v, v', c, d, rfl, rfl⟩ := two (by
                  simp only [ex] at he; unfold exAppend at he; split at he <;> first | exact ⟨_, _, rfl⟩ | cases he)
                rw [hats']
                exact append_ok r hl ht hu hi (by
                  rcases Decidable.em ((i.zero.map fun z => z.cells.size) = some i.size) with hh | hh
                  · exact hh
                  · exact absurd (.inr hh) hz) he
            split at hA
            · exact key _ (by assumption) (.inl (by assumption)) hA
            · exact key _ (by assumption) (.inr ⟨_, by assumption⟩) hA
            · cases hA
          · cases hA
        · cases hA; exact max_ok r hl he
        · cases hA; exact min_ok r hl he
        · cases hA; exact recov_ok r he
        · cases hA
          obtain ⟨v, c, rfl, rfl⟩ := one (by
            simp only [ex] at he; unfold exSliData at he; split at he <;> first | exact ⟨_, rfl⟩ | cases he)
          exact sliData_ok r hl he
        · split at hA
          · rename_i pt it hats
            have hats' : ats = #[pt, it] := by apply Array.ext'; rw [hats]
            split at hA
            · split at hA
              · cases hA
                obtain ⟨v, v', c, d, rfl, rfl⟩ := two (by
                  simp only [ex] at he; unfold exStrData at he; split at he <;> first | exact ⟨_, _, rfl⟩ | cases he)
                rw [hats']
                exact strData_ok r hl he (by assumption) (by assumption)
              · cases hA
            · cases hA
          · cases hA
        · cases hA
      unfold execOp at hgoal
      simpa only [hop] using hgoal
  case defer c =>
    obtain ⟨callee, args, ats⟩ := c
    cases callee <;> simp only [opA, reduceCtorEq] at hc
    · rename_i f
      obtain ⟨rfl, hx⟩ := one_some hc
      have hm : (args.map a.eval) = (args.toList.map a.eval).toArray := by apply Array.ext'; simp
      have := dfr_ok (n0 := n0) r (ops hx) he
      simpa only [resolve, hm] using this
  case panic x =>
    obtain ⟨rfl, hx⟩ := one_some hc
    exact pan_ok r (ops hx) he

end

end Go.Sim

