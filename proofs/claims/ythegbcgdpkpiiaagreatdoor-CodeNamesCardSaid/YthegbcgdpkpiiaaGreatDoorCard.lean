/- The tied card of 'bolterlaw25.CodeNames': for every two numbers the law answers true. Conditions: the row's own; the listed tables are tied to the program's text. -/
import Derived.Test.YthegbcgdpkpiiaaGreatDoorLaw
set_option linter.all false
namespace Go.Proofs.YthegbcgdpkpiiaaGreatDoor
open Go
theorem names_card : Rows.CodeNamesCardSaid :=
  Claim7.holds_tied_plain_at .later [] [.data, .listed, .data, .pinned] true (true, "f7884e0f99b04a58cc63bf76478325a32bdfaf3b36e268b01e6c7b8a9cf2c593") true
    names_row (fun _ h => by cases h) (by kernel_rfl) (fun _ h => by cases h) codeNames_row_tie rfl ⟨rfl, rfl⟩ (by kernel_rfl) rfl
    (fun f fn hf hfn => by
      obtain rfl : f = 4 := Option.some.inj ((show Tryz.prog.funcNamed "bolter/bolterlaw25.CodeNames" = some 4 by kernel_rfl).symm.trans hf) |>.symm
      obtain rfl : fn = Tryz.f4 := (Option.some.inj (Tryz.func4.symm.trans hfn)).symm
      exact ⟨by kernel_rfl, fun j t ht => by
        rw [Tryz.params4] at ht
        have h3 : t = 3 := by
          rcases j with _ | _ | j
          · simpa using ht.symm
          · simpa using ht.symm
          · simp at ht
        subst h3
        exact (show Tryz.prog.wantsStandIn 3 = false by kernel_rfl)⟩)
    (by kernel_rfl)
end Go.Proofs.YthegbcgdpkpiiaaGreatDoor

