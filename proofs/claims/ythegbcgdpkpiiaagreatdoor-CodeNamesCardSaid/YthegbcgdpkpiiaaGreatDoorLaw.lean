/- 'bolterlaw25.CodeNames' is true for every two numbers: no two instructions have one name, and each is read of a line that has it.
  Conditions: the row's own (the listed tables hold what the program's text lays). -/
import Derived.Test.YthegbcgdpkpiiaaGreatDoorBr
import Derived.Test.YthegbcgdpkpiiaaGreatDoorKd
import Derived.Test.YthegbcgdpkpiiaaGreatDoorRows
import Derived.Test.YthegbcgdpkpiiaaGreatDoorCards
import Derived.Test.YthegbcgdpkpiiaaGreatDoorTie
import Derived.ProofKit
import Derived.LaidLaws
import Derived.Lay
import Derived.JoinedOf
import Derived.SevenTiedAt
set_option linter.all false
namespace Go.Proofs.YthegbcgdpkpiiaaGreatDoor
open Go Go.Sim Go.Sim.Ir Go.ChangeShapes Go.WideShapes Go.ChangeAt Go.RowKit
set_option maxRecDepth 100000

theorem mixed : Tryz.prog.follows .mixedOrders = true := by kernel_rfl
theorem gn0 : Tryz.prog.globalNamed "strings.asciiSpace" = some 0 := by kernel_rfl
theorem gn2 : Tryz.prog.globalNamed "unicode.White_Space" = some 2 := by kernel_rfl
theorem gn3 : Tryz.prog.globalNamed "unicode/utf8.first" = some 3 := by kernel_rfl
theorem gn4 : Tryz.prog.globalNamed "unicode/utf8.acceptRanges" = some 4 := by kernel_rfl
noncomputable def gty (g : Nat) : Nat := ((Tryz.prog.globals[g]?).map (·.type)).getD 0
theorem dt0 : dataT Tryz.prog 20 (gty 0) (Rows.laid_strings_asciiSpace : DataW Unit) = some g0 := by kernel_rfl
theorem dt2 : dataT Tryz.prog 20 (gty 2) (Rows.laid_unicode_White_Space : DataW Unit) = some g2 := by kernel_rfl
theorem dt3 : dataT Tryz.prog 20 (gty 3) (Rows.laid_unicode_utf8_first : DataW Unit) = some g3 := by kernel_rfl
theorem dt4 : dataT Tryz.prog 20 (gty 4) (Rows.laid_unicode_utf8_acceptRanges : DataW Unit) = some g4 := by kernel_rfl
theorem gt0 : (Tryz.prog.globals[0]?).map (·.type) = some (gty 0) := by kernel_rfl
theorem gt2 : (Tryz.prog.globals[2]?).map (·.type) = some (gty 2) := by kernel_rfl
theorem gt3 : (Tryz.prog.globals[3]?).map (·.type) = some (gty 3) := by kernel_rfl
theorem gt4 : (Tryz.prog.globals[4]?).map (·.type) = some (gty 4) := by kernel_rfl

/-- What the listed variables hold, as the evaluator has it. -/
theorem tab_fits (gl : Nat) (cs : List V) (h : Go.Sim.Ir.tab gl = some cs) : ∃ x ∈ Rows.codeNamesRow.laid, ∃ t fu, Tryz.prog.globalNamed x.1 = some gl ∧ (Tryz.prog.globals[gl]?).map (·.type) = some t ∧ dataT Tryz.prog fu t x.2 = some cs := by
  unfold Go.Sim.Ir.tab at h
  split at h
  · cases h; exact ⟨("strings.asciiSpace", Rows.laid_strings_asciiSpace), by simp [Rows.codeNamesRow], _, 20, gn0, gt0, dt0⟩
  · cases h; exact ⟨("unicode.White_Space", Rows.laid_unicode_White_Space), by simp [Rows.codeNamesRow], _, 20, gn2, gt2, dt2⟩
  · cases h; exact ⟨("unicode/utf8.first", Rows.laid_unicode_utf8_first), by simp [Rows.codeNamesRow], _, 20, gn3, gt3, dt3⟩
  · cases h; exact ⟨("unicode/utf8.acceptRanges", Rows.laid_unicode_utf8_acceptRanges), by simp [Rows.codeNamesRow], _, 20, gn4, gt4, dt4⟩
  · cases h

theorem tab_pure (gl : Nat) (cs : List V) (h : Go.Sim.Ir.tab gl = some cs) : V.pureL cs = true := by
  unfold Go.Sim.Ir.tab at h
  split at h
  · cases h; kernel_rfl
  · cases h; kernel_rfl
  · cases h; kernel_rfl
  · cases h; kernel_rfl
  · cases h

-- the environments, one behind the other
theorem bif_beq {f n : Nat} {x y : Option V} {v : V} (h : (bif Nat.beq f n then x else y) = some v) : (f = n ∧ x = some v) ∨ y = some v := by
  cases e : Nat.beq f n with
  | true => rw [e] at h; exact .inl ⟨Nat.eq_of_beq_eq_true e, h⟩
  | false => rw [e] at h; exact .inr h
theorem env0 : EnvOK Tryz.prog Go.Sim.Ir.tab E0 := env_ok (keep := fun _ => false) mixed tbl_ok (fun f x fn h => ext_ok f x h fn) (fun f args v h => by cases h)
theorem orc_ops : OrcOK Tryz.prog Go.Sim.Ir.tab 36 [] opsV := orc_ok env0 tab_pure (n := 300) rfl k_ops rfl (by kernel_rfl) rfl rfl
theorem orc1_ok (f : Nat) (args : List V) (v : V) (h : orc1 f args = some v) : OrcOK Tryz.prog Go.Sim.Ir.tab f args v := by
  rcases bif_beq h with ⟨rfl, h⟩ | h
  · cases args with
    | nil => cases h; exact orc_ops
    | cons a l => cases h
  · cases h
theorem env1 : EnvOK Tryz.prog Go.Sim.Ir.tab E1 := env_ok (keep := fun _ => false) mixed tbl_ok (fun f x fn h => ext_ok f x h fn) orc1_ok
theorem orc_alive : OrcOK Tryz.prog Go.Sim.Ir.tab 7 [] (.bool true) := orc_ok env1 tab_pure (n := 300) rfl k_alive rfl rfl rfl rfl
theorem orc_name (n : Int) : OrcOK Tryz.prog Go.Sim.Ir.tab 13 [.int .i64 n] (.str (nameOf n)) := orc_ok env1 tab_pure (n := 300) rfl (name_ok n) rfl rfl rfl rfl
theorem orc2_ok {line : List Nat} {v : V} (hv : OrcOK Tryz.prog Go.Sim.Ir.tab 8 [.str line] v) (f : Nat) (args : List V) (u : V) (h : orc2 line v f args = some u) : OrcOK Tryz.prog Go.Sim.Ir.tab f args u := by
  unfold orc2 at h
  rcases bif_beq h with ⟨e1, h1⟩ | h1
  · clear h
    subst e1
    cases args with
    | nil => cases h1; exact orc_alive
    | cons a l => cases h1
  · clear h
    rcases bif_beq h1 with ⟨e2, h2⟩ | h2
    · clear h1
      subst e2
      split at h2
      · rename_i n; cases h2; exact orc_name n
      · cases h2
    · clear h1
      rcases bif_beq h2 with ⟨e3, h3⟩ | h3
      · clear h2
        subst e3
        split at h3
        · rename_i s
          cases es : (s == line) with
          | true =>
            rw [es] at h3
            have e : s = line := by simpa using es
            cases h3; rw [e]; exact hv
          | false => rw [es] at h3; cases h3
        · cases h3
      · cases h3
theorem env2 {line : List Nat} {v : V} (hv : OrcOK Tryz.prog Go.Sim.Ir.tab 8 [.str line] v) : EnvOK Tryz.prog Go.Sim.Ir.tab (E2 line v) := env_ok (keep := fun _ => false) mixed tbl_ok (fun f x fn h => ext_ok f x h fn) (orc2_ok hv)

/-- Each line, and what is read of it. -/
theorem lines_ok : ∀ p ∈ lineOf, OrcOK Tryz.prog Go.Sim.Ir.tab 8 [.str p.1] p.2 := by
  have one : ∀ (s : List Nat) (v : V), eval E1 300 (.fn 8 []) [.str s] .off h00 = outV v → v.pure = true → OrcOK Tryz.prog Go.Sim.Ir.tab 8 [.str s] v := fun s v h hp => orc_ok env1 tab_pure (n := 300) rfl h rfl hp rfl rfl
  intro p hp
  simp only [lineOf, List.mem_cons, List.mem_nil_iff, or_false] at hp
  rcases hp with rfl | rfl | rfl | rfl | rfl | rfl | rfl | rfl | rfl | rfl | rfl | rfl | rfl | rfl | rfl | rfl | rfl | rfl | rfl | rfl | rfl | rfl | rfl | rfl | rfl | rfl | rfl | rfl | rfl | rfl | rfl | rfl | rfl | rfl | rfl | rfl | rfl | rfl | rfl | rfl | rfl | rfl | rfl | rfl | rfl | rfl
  · exact one _ _ k_read0 rfl
  · exact one _ _ k_read1 rfl
  · exact one _ _ k_read2 rfl
  · exact one _ _ k_read3 rfl
  · exact one _ _ k_read4 rfl
  · exact one _ _ k_read5 rfl
  · exact one _ _ k_read6 rfl
  · exact one _ _ k_read7 rfl
  · exact one _ _ k_read8 rfl
  · exact one _ _ k_read9 rfl
  · exact one _ _ k_read10 rfl
  · exact one _ _ k_read11 rfl
  · exact one _ _ k_read12 rfl
  · exact one _ _ k_read13 rfl
  · exact one _ _ k_read14 rfl
  · exact one _ _ k_read15 rfl
  · exact one _ _ k_read16 rfl
  · exact one _ _ k_read17 rfl
  · exact one _ _ k_read18 rfl
  · exact one _ _ k_read19 rfl
  · exact one _ _ k_read20 rfl
  · exact one _ _ k_read21 rfl
  · exact one _ _ k_read22 rfl
  · exact one _ _ k_read23 rfl
  · exact one _ _ k_read24 rfl
  · exact one _ _ k_read25 rfl
  · exact one _ _ k_read26 rfl
  · exact one _ _ k_read27 rfl
  · exact one _ _ k_read28 rfl
  · exact one _ _ k_read29 rfl
  · exact one _ _ k_read30 rfl
  · exact one _ _ k_read31 rfl
  · exact one _ _ k_read32 rfl
  · exact one _ _ k_read33 rfl
  · exact one _ _ k_read34 rfl
  · exact one _ _ k_read35 rfl
  · exact one _ _ k_read36 rfl
  · exact one _ _ k_read37 rfl
  · exact one _ _ k_read38 rfl
  · exact one _ _ k_read39 rfl
  · exact one _ _ k_read40 rfl
  · exact one _ _ k_read41 rfl
  · exact one _ _ k_read42 rfl
  · exact one _ _ k_read43 rfl
  · exact one _ _ k_read44 rfl
  · exact one _ _ k_read45 rfl

theorem names_any (a b : Int) (W : World) (tb : TabOK Tryz.prog Go.Sim.Ir.tab (oldG W)) :
    Calls Tryz.prog 4 #[.int .i64 a, .int .i64 b] W fun e W' => e = .returned (.bool true) ∧ W'.os = W.os ∧ W'.output = W.output ∧ ∀ (i : Nat) (o : Obj), W.heap[i]? = some o → W'.heap[i]? = some o := by
  obtain ⟨p, hp, hk⟩ := law_all a b
  obtain ⟨out, ho, hr⟩ := chk_ok hk
  have h := top_ok (n := 299) (env2 (lines_ok p hp)) (show (E2 p.1 p.2).fn 4 = some f4 from rfl) (args := [.int .i64 a, .int .i64 b]) rfl rfl ho hr (w := W) tb (cargs := [.int .i64 a, .int .i64 b]) (by simp only [LR, VR]; exact ⟨_, _, rfl, rfl, _, _, rfl, rfl, rfl⟩)
  refine h.mono fun e W' ⟨c, he, ⟨g, tok, hv⟩, h1, h2, h3⟩ => ⟨?_, h1, h2, h3⟩
  simp only [VR] at hv
  rw [he, hv]

/-- What stays stays. -/
theorem kept_old {W W' : World} (h1 : W'.os = W.os) (h2 : W'.output = W.output) (h : ∀ (i : Nat) (o : Obj), W.heap[i]? = some o → W'.heap[i]? = some o) (may : MemPlace → Prop) : W.keptBut W' may := by
  refine ⟨h1, h2, fun i hi => ?_⟩
  obtain ⟨o, ho⟩ : ∃ o, W.heap[i]? = some o := ⟨W.heap[i], Array.getElem?_eq_getElem hi⟩
  rw [ho, h i o ho]
  cases o <;> simp

theorem own : ownKnob Tryz.prog.godebug = none := by kernel_rfl
theorem laidOut : laidOutB Tryz.prog = true := by kernel_rfl
theorem no_handle : (Rows.codeNamesRow.laid.filter fun x => x.2.handleName?.isSome) = [] := by kernel_rfl
theorem laid_met {W : World} (h : laidMetH Tryz.prog Rows.codeNamesRow.laid W) : laidMet Tryz.prog Rows.codeNamesRow.laid W := by
  unfold laidMetH at h
  rw [no_handle] at h
  exact h
theorem laid_metH {W : World} (h : laidMet Tryz.prog Rows.codeNamesRow.laid W) : laidMetH Tryz.prog Rows.codeNamesRow.laid W := by
  unfold laidMetH
  rw [no_handle]
  exact h

noncomputable abbrev w0 (os : Os) : World := World.laidAll Tryz.prog os Rows.codeNamesRow.laid
theorem w0_met (os : Os) (args : Array Value) : laidMet Tryz.prog Rows.codeNamesRow.laid ((w0 os).forCall (fun _ _ => 0) ⟨#[], args, []⟩).memory :=
  laidMet_laidAll args (by kernel_rfl) (by kernel_rfl)

theorem names_lifted (os : Os) (started : os.Started) (H : Type) (enc : TypeId × Value → H) :
    ReturnsInHanded {} Tryz.checked os 4 .any (fun w args => (Rows.codeNamesSpec.pre enc Tryz.prog Tryz.f4 [] false w args ∧ laidMetH Tryz.prog Rows.codeNamesRow.laid w) ∧ sizedMet enc Tryz.prog Tryz.f4 (OpenSpec.ofChange Rows.codeNamesSpec) false w args)
      (Rows.codeNamesSpec.post enc Tryz.prog Tryz.f4 false true false false) := by
  refine returnsInHanded_of_change_and (C := Tryz.checked) (X := fun w _ => laidMetH Tryz.prog Rows.codeNamesRow.laid w) (fun _ _ _ hh h => laid_metH ((laid_met h).of_heap hh)) own started (by kernel_rfl) Tryz.func4
    ⟨w0 os, fun _ _ => 0, ⟨#[], #[.int .i64 0, .int .i64 0], []⟩, World.laidAll_os _ _ _, World.shaped_of_ZipB (by kernel_rfl) (by kernel_rfl), rfl, (Input.okWide_of_okWideB (base := 0) (by kernel_rfl)).2, ⟨⟨ChangeSpec.pre_of_preB (fuel := 8) (by kernel_rfl), laid_metH (w0_met os _)⟩, sizedMet_of_sizedB (fuel := 8) (by kernel_rfl)⟩, by
      simp only [Assume.holds]
      exact ⟨by simp, by simp, fun _ => Modest.zero, by simp, by simp⟩⟩ ?_
  intro W base args ds gs before hval0 hW _ _ hL _
  have hval : ∀ (j : Nat) t v, Tryz.f4.params[j]? = some t → args[j]? = some v → Value.okWide Tryz.prog W .any base t v := hval0
  have hW' := hW
  obtain ⟨p, q, hA0, hV0, rfl, hfz, hnd⟩ := hW
  have hA : DataW.TrodAll enc Tryz.prog W 0 (fun _ => true) true Tryz.f4.params.toList args.toList ds p := hA0
  have hV : DataW.TrodVars enc Tryz.prog W (fun _ => true) [] gs q := hV0
  rw [Tryz.params4] at hA hval
  obtain ⟨v0, v1, d0, d1, p0, p1, rfl, rfl, rfl, h0, h1⟩ := trodAll_two hA
  obtain ⟨a, rfl, rfl, rfl, wa⟩ := open_int Tryz.underlying3 (hval 0 3 v0 rfl rfl) h0
  obtain ⟨b, rfl, rfl, rfl, wb⟩ := open_int Tryz.underlying3 (hval 1 3 v1 rfl rfl) h1
  obtain ⟨rfl, rfl⟩ : gs = [] ∧ q = [] := by
    cases gs with
    | nil => exact ⟨rfl, hV⟩
    | cons g r => exact absurd hV (by intro h; cases h)
  have tb : TabOK Tryz.prog Go.Sim.Ir.tab (oldG W) := tab_ok (laid_met hL) tab_fits
  have e1 : Rows.codeNamesSpec.fn H ([.lit (.int .i64 a), .lit (.int .i64 b)] ++ []) = { results := [.lit (.bool true)], args := [.lit (.int .i64 a), .lit (.int .i64 b)] } := by simp [Rows.codeNamesSpec]
  refine (names_any a b W tb).mono fun e W' ⟨he, k1, k2, k3⟩ => ?_
  subst he
  refine ⟨_, rfl, _, _, _, [], [], [], hW', ?_, ?_, ?_, kept_old k1 k2 k3 _, fun h => by cases h⟩
  · rw [e1]; exact trodAll_mk1 (shut_bool Tryz.underlying4 true)
  · rw [e1]; exact trodAll_mk2 (shut_int Tryz.underlying3 wa) (shut_int Tryz.underlying3 wb)
  · rw [e1]; rfl

theorem names_row : Rows.CodeNamesSaid :=
  OpenClaim.holds_of_wide 4 Tryz.f4 rfl rfl rfl rfl rfl rfl rfl ⟨rfl, rfl, rfl, rfl, rfl⟩ rfl rfl rfl rfl rfl (by kernel_rfl) Tryz.func4 (by kernel_rfl)
    (of_decide_eq_true (by kernel_rfl)) (by unfold Func.isWrapper; first | (rw [if_pos (by decide +kernel)]; kernel_rfl) | (rw [if_neg (by decide +kernel)]; exact ⟨rfl, rfl⟩))
    (fun os started H enc _ => names_lifted os started H enc)

end Go.Proofs.YthegbcgdpkpiiaaGreatDoor

