/- The law, of numbers. Conditions: none. -/
import Derived.Test.YthegbcgdpkpiiaaGreatDoorKc
set_option linter.all false
set_option maxRecDepth 100000
namespace Go.Sim.Ir
/-- What is handed on: the example, any number's name, a line read. -/
def orc2 (line : List Nat) (v : V) (f : Nat) (args : List V) : Option V :=
  bif Nat.beq f 7 then (match args with | [] => some (.bool true) | _ => none)
  else bif Nat.beq f 13 then (match args with | [.int .i64 n] => some (.str (nameOf n)) | _ => none)
  else bif Nat.beq f 8 then (match args with | [.str s] => (bif s == line then some v else none) | _ => none)
  else none
def E2 (line : List Nat) (v : V) : Env := { fn := tbl, orc := orc2 line v, split := spl, wr := fun _ => false }
def chk (o : Option Out) : Bool := match o with
  | some { r := .ret (.bool true), .. } => true
  | _ => false
theorem chk_ok {o : Option Out} (h : chk o = true) : ∃ out, o = some out ∧ out.r = .ret (.bool true) := by
  unfold chk at h
  split at h
  · exact ⟨_, rfl, rfl⟩
  · cases h
def allB (p : Nat → Bool) : Nat → Bool
  | 0 => true
  | n + 1 => p n && allB p n
theorem allB_ok {p : Nat → Bool} : ∀ {n : Nat}, allB p n = true → ∀ i, i < n → p i = true
  | 0, _, i, hi => absurd hi (Nat.not_lt_zero i)
  | n + 1, h, i, hi => by
    simp only [allB, Bool.and_eq_true] at h
    by_cases e : i = n
    · subst e; exact h.1
    · exact allB_ok h.2 i (by omega)
def law (line : List Nat) (v : V) (a b : Int) : Option Out := eval (E2 line v) 300 (.fn 4 []) [.int .i64 a, .int .i64 b] .off h00
theorem law_any {line : List Nat} {v : V} {a : Int} (h : allB (fun i => chk (law line v a (.ofNat i))) 46 = true) (hi : ∀ k, chk (law line v a (.ofNat (k + 46))) = true) (lo : ∀ k, chk (law line v a (.negSucc k)) = true) (b : Int) : chk (law line v a b) = true := by
  cases b with
  | ofNat m =>
    rcases Nat.lt_or_ge m 46 with hm | hm
    · exact allB_ok h m hm
    · have := hi (m - 46); rwa [Nat.sub_add_cancel hm] at this
  | negSucc k => exact lo k
theorem k_lawHi (k : Nat) (b : Int) : chk (law [101, 110, 100, 10, 101, 110, 100, 10] (okV 0) (.ofNat (k + 46)) b) = true := by kernel_rfl
theorem k_lawLo (k : Nat) (b : Int) : chk (law [101, 110, 100, 10, 101, 110, 100, 10] (okV 0) (.negSucc k) b) = true := by kernel_rfl
theorem k_law0 (b : Int) : chk (law [101, 110, 100, 10, 101, 110, 100, 10] (okV 0) 0 b) = true := law_any (by kernel_rfl) (fun k => by kernel_rfl) (fun k => by kernel_rfl) b
theorem k_law1 (b : Int) : chk (law [99, 111, 110, 115, 116, 10, 101, 110, 100, 10] noV 1 b) = true := law_any (by kernel_rfl) (fun k => by kernel_rfl) (fun k => by kernel_rfl) b
theorem k_law2 (b : Int) : chk (law [112, 117, 115, 104, 10, 101, 110, 100, 10] (okV 2) 2 b) = true := law_any (by kernel_rfl) (fun k => by kernel_rfl) (fun k => by kernel_rfl) b
theorem k_law3 (b : Int) : chk (law [111, 102, 102, 10, 101, 110, 100, 10] (okV 3) 3 b) = true := law_any (by kernel_rfl) (fun k => by kernel_rfl) (fun k => by kernel_rfl) b
theorem k_law4 (b : Int) : chk (law [115, 119, 97, 112, 10, 101, 110, 100, 10] (okV 4) 4 b) = true := law_any (by kernel_rfl) (fun k => by kernel_rfl) (fun k => by kernel_rfl) b
theorem k_law5 (b : Int) : chk (law [106, 117, 109, 112, 10, 101, 110, 100, 10] noV 5 b) = true := law_any (by kernel_rfl) (fun k => by kernel_rfl) (fun k => by kernel_rfl) b
theorem k_law6 (b : Int) : chk (law [102, 111, 114, 107, 10, 101, 110, 100, 10] noV 6 b) = true := law_any (by kernel_rfl) (fun k => by kernel_rfl) (fun k => by kernel_rfl) b
theorem k_law7 (b : Int) : chk (law [98, 97, 99, 107, 10, 101, 110, 100, 10] (okV 7) 7 b) = true := law_any (by kernel_rfl) (fun k => by kernel_rfl) (fun k => by kernel_rfl) b
theorem k_law8 (b : Int) : chk (law [105, 110, 100, 101, 120, 10, 101, 110, 100, 10] (okV 8) 8 b) = true := law_any (by kernel_rfl) (fun k => by kernel_rfl) (fun k => by kernel_rfl) b
theorem k_law9 (b : Int) : chk (law [101, 97, 99, 104, 10, 101, 110, 100, 10] (okV 9) 9 b) = true := law_any (by kernel_rfl) (fun k => by kernel_rfl) (fun k => by kernel_rfl) b
theorem k_law10 (b : Int) : chk (law [99, 101, 108, 108, 10, 101, 110, 100, 10] (okV 10) 10 b) = true := law_any (by kernel_rfl) (fun k => by kernel_rfl) (fun k => by kernel_rfl) b
theorem k_law11 (b : Int) : chk (law [97, 112, 112, 101, 110, 100, 10, 101, 110, 100, 10] (okV 11) 11 b) = true := law_any (by kernel_rfl) (fun k => by kernel_rfl) (fun k => by kernel_rfl) b
theorem k_law12 (b : Int) : chk (law [108, 111, 97, 100, 10, 101, 110, 100, 10] (okV 12) 12 b) = true := law_any (by kernel_rfl) (fun k => by kernel_rfl) (fun k => by kernel_rfl) b
theorem k_law13 (b : Int) : chk (law [108, 111, 115, 101, 10, 101, 110, 100, 10] (okV 13) 13 b) = true := law_any (by kernel_rfl) (fun k => by kernel_rfl) (fun k => by kernel_rfl) b
theorem k_law14 (b : Int) : chk (law [112, 105, 99, 107, 10, 101, 110, 100, 10] noV 14 b) = true := law_any (by kernel_rfl) (fun k => by kernel_rfl) (fun k => by kernel_rfl) b
theorem k_law15 (b : Int) : chk (law [101, 110, 116, 114, 121, 10, 101, 110, 100, 10] (okV 15) 15 b) = true := law_any (by kernel_rfl) (fun k => by kernel_rfl) (fun k => by kernel_rfl) b
theorem k_law16 (b : Int) : chk (law [110, 97, 116, 105, 118, 101, 10, 101, 110, 100, 10] noV 16 b) = true := law_any (by kernel_rfl) (fun k => by kernel_rfl) (fun k => by kernel_rfl) b
theorem k_law17 (b : Int) : chk (law [111, 112, 101, 114, 97, 116, 111, 114, 10, 101, 110, 100, 10] noV 17 b) = true := law_any (by kernel_rfl) (fun k => by kernel_rfl) (fun k => by kernel_rfl) b
theorem k_law18 (b : Int) : chk (law [109, 105, 110, 117, 115, 10, 101, 110, 100, 10] (okV 18) 18 b) = true := law_any (by kernel_rfl) (fun k => by kernel_rfl) (fun k => by kernel_rfl) b
theorem k_law19 (b : Int) : chk (law [116, 101, 115, 116, 10, 101, 110, 100, 10] noV 19 b) = true := law_any (by kernel_rfl) (fun k => by kernel_rfl) (fun k => by kernel_rfl) b
theorem k_law20 (b : Int) : chk (law [116, 114, 121, 10, 101, 110, 100, 10] noV 20 b) = true := law_any (by kernel_rfl) (fun k => by kernel_rfl) (fun k => by kernel_rfl) b
theorem k_law21 (b : Int) : chk (law [108, 101, 97, 118, 101, 10, 101, 110, 100, 10] (okV 21) 21 b) = true := law_any (by kernel_rfl) (fun k => by kernel_rfl) (fun k => by kernel_rfl) b
theorem k_law22 (b : Int) : chk (law [111, 114, 101, 108, 115, 101, 10, 101, 110, 100, 10] noV 22 b) = true := law_any (by kernel_rfl) (fun k => by kernel_rfl) (fun k => by kernel_rfl) b
theorem k_law23 (b : Int) : chk (law [102, 111, 117, 110, 100, 10, 101, 110, 100, 10] (okV 23) 23 b) = true := law_any (by kernel_rfl) (fun k => by kernel_rfl) (fun k => by kernel_rfl) b
theorem k_law24 (b : Int) : chk (law [108, 97, 98, 101, 108, 10, 101, 110, 100, 10] (okV 24) 24 b) = true := law_any (by kernel_rfl) (fun k => by kernel_rfl) (fun k => by kernel_rfl) b
theorem k_law25 (b : Int) : chk (law [98, 114, 101, 97, 107, 10, 101, 110, 100, 10] noV 25 b) = true := law_any (by kernel_rfl) (fun k => by kernel_rfl) (fun k => by kernel_rfl) b
theorem k_law26 (b : Int) : chk (law [98, 105, 110, 100, 10, 101, 110, 100, 10] (okV 26) 26 b) = true := law_any (by kernel_rfl) (fun k => by kernel_rfl) (fun k => by kernel_rfl) b
theorem k_law27 (b : Int) : chk (law [117, 110, 98, 105, 110, 100, 10, 101, 110, 100, 10] noV 27 b) = true := law_any (by kernel_rfl) (fun k => by kernel_rfl) (fun k => by kernel_rfl) b
theorem k_law28 (b : Int) : chk (law [100, 101, 102, 105, 110, 101, 10, 101, 110, 100, 10] noV 28 b) = true := law_any (by kernel_rfl) (fun k => by kernel_rfl) (fun k => by kernel_rfl) b
theorem k_law29 (b : Int) : chk (law [97, 114, 103, 117, 109, 101, 110, 116, 10, 101, 110, 100, 10] noV 29 b) = true := law_any (by kernel_rfl) (fun k => by kernel_rfl) (fun k => by kernel_rfl) b
theorem k_law30 (b : Int) : chk (law [99, 97, 108, 108, 10, 101, 110, 100, 10] noV 30 b) = true := law_any (by kernel_rfl) (fun k => by kernel_rfl) (fun k => by kernel_rfl) b
theorem k_law31 (b : Int) : chk (law [99, 97, 108, 108, 112, 97, 114, 97, 109, 10, 101, 110, 100, 10] noV 31 b) = true := law_any (by kernel_rfl) (fun k => by kernel_rfl) (fun k => by kernel_rfl) b
theorem k_law32 (b : Int) : chk (law [114, 101, 116, 117, 114, 110, 10, 101, 110, 100, 10] (okV 32) 32 b) = true := law_any (by kernel_rfl) (fun k => by kernel_rfl) (fun k => by kernel_rfl) b
theorem k_law33 (b : Int) : chk (law [116, 97, 105, 108, 99, 97, 108, 108, 10, 101, 110, 100, 10] noV 33 b) = true := law_any (by kernel_rfl) (fun k => by kernel_rfl) (fun k => by kernel_rfl) b
theorem k_law34 (b : Int) : chk (law [116, 97, 105, 108, 112, 97, 114, 97, 109, 10, 101, 110, 100, 10] noV 34 b) = true := law_any (by kernel_rfl) (fun k => by kernel_rfl) (fun k => by kernel_rfl) b
theorem k_law35 (b : Int) : chk (law [115, 116, 111, 114, 101, 10, 101, 110, 100, 10] (okV 35) 35 b) = true := law_any (by kernel_rfl) (fun k => by kernel_rfl) (fun k => by kernel_rfl) b
theorem k_law36 (b : Int) : chk (law [112, 97, 116, 104, 115, 111, 110, 10, 101, 110, 100, 10] (okV 36) 36 b) = true := law_any (by kernel_rfl) (fun k => by kernel_rfl) (fun k => by kernel_rfl) b
theorem k_law37 (b : Int) : chk (law [112, 97, 116, 104, 115, 101, 110, 100, 10, 101, 110, 100, 10] (okV 37) 37 b) = true := law_any (by kernel_rfl) (fun k => by kernel_rfl) (fun k => by kernel_rfl) b
theorem k_law38 (b : Int) : chk (law [97, 108, 111, 110, 103, 10, 101, 110, 100, 10] (okV 38) 38 b) = true := law_any (by kernel_rfl) (fun k => by kernel_rfl) (fun k => by kernel_rfl) b
theorem k_law39 (b : Int) : chk (law [116, 104, 114, 111, 119, 10, 101, 110, 100, 10] (okV 39) 39 b) = true := law_any (by kernel_rfl) (fun k => by kernel_rfl) (fun k => by kernel_rfl) b
theorem k_law40 (b : Int) : chk (law [105, 110, 112, 117, 116, 10, 101, 110, 100, 10] (okV 40) 40 b) = true := law_any (by kernel_rfl) (fun k => by kernel_rfl) (fun k => by kernel_rfl) b
theorem k_law41 (b : Int) : chk (law [99, 111, 112, 121, 10, 101, 110, 100, 10] noV 41 b) = true := law_any (by kernel_rfl) (fun k => by kernel_rfl) (fun k => by kernel_rfl) b
theorem k_law42 (b : Int) : chk (law [100, 114, 111, 112, 10, 101, 110, 100, 10] (okV 42) 42 b) = true := law_any (by kernel_rfl) (fun k => by kernel_rfl) (fun k => by kernel_rfl) b
theorem k_law43 (b : Int) : chk (law [101, 109, 112, 116, 121, 108, 105, 115, 116, 10, 101, 110, 100, 10] (okV 43) 43 b) = true := law_any (by kernel_rfl) (fun k => by kernel_rfl) (fun k => by kernel_rfl) b
theorem k_law44 (b : Int) : chk (law [101, 109, 112, 116, 121, 111, 98, 106, 101, 99, 116, 10, 101, 110, 100, 10] (okV 44) 44 b) = true := law_any (by kernel_rfl) (fun k => by kernel_rfl) (fun k => by kernel_rfl) b
theorem k_law45 (b : Int) : chk (law [118, 97, 114, 105, 97, 98, 108, 101, 10, 101, 110, 100, 10] noV 45 b) = true := law_any (by kernel_rfl) (fun k => by kernel_rfl) (fun k => by kernel_rfl) b
/-- A line, and what is read of it. -/
def lineOf : List (List Nat × V) := [([101, 110, 100, 10, 101, 110, 100, 10], okV 0), ([99, 111, 110, 115, 116, 10, 101, 110, 100, 10], noV), ([112, 117, 115, 104, 10, 101, 110, 100, 10], okV 2), ([111, 102, 102, 10, 101, 110, 100, 10], okV 3), ([115, 119, 97, 112, 10, 101, 110, 100, 10], okV 4), ([106, 117, 109, 112, 10, 101, 110, 100, 10], noV), ([102, 111, 114, 107, 10, 101, 110, 100, 10], noV), ([98, 97, 99, 107, 10, 101, 110, 100, 10], okV 7), ([105, 110, 100, 101, 120, 10, 101, 110, 100, 10], okV 8), ([101, 97, 99, 104, 10, 101, 110, 100, 10], okV 9), ([99, 101, 108, 108, 10, 101, 110, 100, 10], okV 10), ([97, 112, 112, 101, 110, 100, 10, 101, 110, 100, 10], okV 11), ([108, 111, 97, 100, 10, 101, 110, 100, 10], okV 12), ([108, 111, 115, 101, 10, 101, 110, 100, 10], okV 13), ([112, 105, 99, 107, 10, 101, 110, 100, 10], noV), ([101, 110, 116, 114, 121, 10, 101, 110, 100, 10], okV 15), ([110, 97, 116, 105, 118, 101, 10, 101, 110, 100, 10], noV), ([111, 112, 101, 114, 97, 116, 111, 114, 10, 101, 110, 100, 10], noV), ([109, 105, 110, 117, 115, 10, 101, 110, 100, 10], okV 18), ([116, 101, 115, 116, 10, 101, 110, 100, 10], noV), ([116, 114, 121, 10, 101, 110, 100, 10], noV), ([108, 101, 97, 118, 101, 10, 101, 110, 100, 10], okV 21), ([111, 114, 101, 108, 115, 101, 10, 101, 110, 100, 10], noV), ([102, 111, 117, 110, 100, 10, 101, 110, 100, 10], okV 23), ([108, 97, 98, 101, 108, 10, 101, 110, 100, 10], okV 24), ([98, 114, 101, 97, 107, 10, 101, 110, 100, 10], noV), ([98, 105, 110, 100, 10, 101, 110, 100, 10], okV 26), ([117, 110, 98, 105, 110, 100, 10, 101, 110, 100, 10], noV), ([100, 101, 102, 105, 110, 101, 10, 101, 110, 100, 10], noV), ([97, 114, 103, 117, 109, 101, 110, 116, 10, 101, 110, 100, 10], noV), ([99, 97, 108, 108, 10, 101, 110, 100, 10], noV), ([99, 97, 108, 108, 112, 97, 114, 97, 109, 10, 101, 110, 100, 10], noV), ([114, 101, 116, 117, 114, 110, 10, 101, 110, 100, 10], okV 32), ([116, 97, 105, 108, 99, 97, 108, 108, 10, 101, 110, 100, 10], noV), ([116, 97, 105, 108, 112, 97, 114, 97, 109, 10, 101, 110, 100, 10], noV), ([115, 116, 111, 114, 101, 10, 101, 110, 100, 10], okV 35), ([112, 97, 116, 104, 115, 111, 110, 10, 101, 110, 100, 10], okV 36), ([112, 97, 116, 104, 115, 101, 110, 100, 10, 101, 110, 100, 10], okV 37), ([97, 108, 111, 110, 103, 10, 101, 110, 100, 10], okV 38), ([116, 104, 114, 111, 119, 10, 101, 110, 100, 10], okV 39), ([105, 110, 112, 117, 116, 10, 101, 110, 100, 10], okV 40), ([99, 111, 112, 121, 10, 101, 110, 100, 10], noV), ([100, 114, 111, 112, 10, 101, 110, 100, 10], okV 42), ([101, 109, 112, 116, 121, 108, 105, 115, 116, 10, 101, 110, 100, 10], okV 43), ([101, 109, 112, 116, 121, 111, 98, 106, 101, 99, 116, 10, 101, 110, 100, 10], okV 44), ([118, 97, 114, 105, 97, 98, 108, 101, 10, 101, 110, 100, 10], noV)]
theorem law_all : ∀ a b : Int, ∃ p ∈ lineOf, chk (law p.1 p.2 a b) = true
  | .ofNat 0, b => ⟨([101, 110, 100, 10, 101, 110, 100, 10], okV 0), by simp [lineOf], k_law0 b⟩
  | .ofNat 1, b => ⟨([99, 111, 110, 115, 116, 10, 101, 110, 100, 10], noV), by simp [lineOf], k_law1 b⟩
  | .ofNat 2, b => ⟨([112, 117, 115, 104, 10, 101, 110, 100, 10], okV 2), by simp [lineOf], k_law2 b⟩
  | .ofNat 3, b => ⟨([111, 102, 102, 10, 101, 110, 100, 10], okV 3), by simp [lineOf], k_law3 b⟩
  | .ofNat 4, b => ⟨([115, 119, 97, 112, 10, 101, 110, 100, 10], okV 4), by simp [lineOf], k_law4 b⟩
  | .ofNat 5, b => ⟨([106, 117, 109, 112, 10, 101, 110, 100, 10], noV), by simp [lineOf], k_law5 b⟩
  | .ofNat 6, b => ⟨([102, 111, 114, 107, 10, 101, 110, 100, 10], noV), by simp [lineOf], k_law6 b⟩
  | .ofNat 7, b => ⟨([98, 97, 99, 107, 10, 101, 110, 100, 10], okV 7), by simp [lineOf], k_law7 b⟩
  | .ofNat 8, b => ⟨([105, 110, 100, 101, 120, 10, 101, 110, 100, 10], okV 8), by simp [lineOf], k_law8 b⟩
  | .ofNat 9, b => ⟨([101, 97, 99, 104, 10, 101, 110, 100, 10], okV 9), by simp [lineOf], k_law9 b⟩
  | .ofNat 10, b => ⟨([99, 101, 108, 108, 10, 101, 110, 100, 10], okV 10), by simp [lineOf], k_law10 b⟩
  | .ofNat 11, b => ⟨([97, 112, 112, 101, 110, 100, 10, 101, 110, 100, 10], okV 11), by simp [lineOf], k_law11 b⟩
  | .ofNat 12, b => ⟨([108, 111, 97, 100, 10, 101, 110, 100, 10], okV 12), by simp [lineOf], k_law12 b⟩
  | .ofNat 13, b => ⟨([108, 111, 115, 101, 10, 101, 110, 100, 10], okV 13), by simp [lineOf], k_law13 b⟩
  | .ofNat 14, b => ⟨([112, 105, 99, 107, 10, 101, 110, 100, 10], noV), by simp [lineOf], k_law14 b⟩
  | .ofNat 15, b => ⟨([101, 110, 116, 114, 121, 10, 101, 110, 100, 10], okV 15), by simp [lineOf], k_law15 b⟩
  | .ofNat 16, b => ⟨([110, 97, 116, 105, 118, 101, 10, 101, 110, 100, 10], noV), by simp [lineOf], k_law16 b⟩
  | .ofNat 17, b => ⟨([111, 112, 101, 114, 97, 116, 111, 114, 10, 101, 110, 100, 10], noV), by simp [lineOf], k_law17 b⟩
  | .ofNat 18, b => ⟨([109, 105, 110, 117, 115, 10, 101, 110, 100, 10], okV 18), by simp [lineOf], k_law18 b⟩
  | .ofNat 19, b => ⟨([116, 101, 115, 116, 10, 101, 110, 100, 10], noV), by simp [lineOf], k_law19 b⟩
  | .ofNat 20, b => ⟨([116, 114, 121, 10, 101, 110, 100, 10], noV), by simp [lineOf], k_law20 b⟩
  | .ofNat 21, b => ⟨([108, 101, 97, 118, 101, 10, 101, 110, 100, 10], okV 21), by simp [lineOf], k_law21 b⟩
  | .ofNat 22, b => ⟨([111, 114, 101, 108, 115, 101, 10, 101, 110, 100, 10], noV), by simp [lineOf], k_law22 b⟩
  | .ofNat 23, b => ⟨([102, 111, 117, 110, 100, 10, 101, 110, 100, 10], okV 23), by simp [lineOf], k_law23 b⟩
  | .ofNat 24, b => ⟨([108, 97, 98, 101, 108, 10, 101, 110, 100, 10], okV 24), by simp [lineOf], k_law24 b⟩
  | .ofNat 25, b => ⟨([98, 114, 101, 97, 107, 10, 101, 110, 100, 10], noV), by simp [lineOf], k_law25 b⟩
  | .ofNat 26, b => ⟨([98, 105, 110, 100, 10, 101, 110, 100, 10], okV 26), by simp [lineOf], k_law26 b⟩
  | .ofNat 27, b => ⟨([117, 110, 98, 105, 110, 100, 10, 101, 110, 100, 10], noV), by simp [lineOf], k_law27 b⟩
  | .ofNat 28, b => ⟨([100, 101, 102, 105, 110, 101, 10, 101, 110, 100, 10], noV), by simp [lineOf], k_law28 b⟩
  | .ofNat 29, b => ⟨([97, 114, 103, 117, 109, 101, 110, 116, 10, 101, 110, 100, 10], noV), by simp [lineOf], k_law29 b⟩
  | .ofNat 30, b => ⟨([99, 97, 108, 108, 10, 101, 110, 100, 10], noV), by simp [lineOf], k_law30 b⟩
  | .ofNat 31, b => ⟨([99, 97, 108, 108, 112, 97, 114, 97, 109, 10, 101, 110, 100, 10], noV), by simp [lineOf], k_law31 b⟩
  | .ofNat 32, b => ⟨([114, 101, 116, 117, 114, 110, 10, 101, 110, 100, 10], okV 32), by simp [lineOf], k_law32 b⟩
  | .ofNat 33, b => ⟨([116, 97, 105, 108, 99, 97, 108, 108, 10, 101, 110, 100, 10], noV), by simp [lineOf], k_law33 b⟩
  | .ofNat 34, b => ⟨([116, 97, 105, 108, 112, 97, 114, 97, 109, 10, 101, 110, 100, 10], noV), by simp [lineOf], k_law34 b⟩
  | .ofNat 35, b => ⟨([115, 116, 111, 114, 101, 10, 101, 110, 100, 10], okV 35), by simp [lineOf], k_law35 b⟩
  | .ofNat 36, b => ⟨([112, 97, 116, 104, 115, 111, 110, 10, 101, 110, 100, 10], okV 36), by simp [lineOf], k_law36 b⟩
  | .ofNat 37, b => ⟨([112, 97, 116, 104, 115, 101, 110, 100, 10, 101, 110, 100, 10], okV 37), by simp [lineOf], k_law37 b⟩
  | .ofNat 38, b => ⟨([97, 108, 111, 110, 103, 10, 101, 110, 100, 10], okV 38), by simp [lineOf], k_law38 b⟩
  | .ofNat 39, b => ⟨([116, 104, 114, 111, 119, 10, 101, 110, 100, 10], okV 39), by simp [lineOf], k_law39 b⟩
  | .ofNat 40, b => ⟨([105, 110, 112, 117, 116, 10, 101, 110, 100, 10], okV 40), by simp [lineOf], k_law40 b⟩
  | .ofNat 41, b => ⟨([99, 111, 112, 121, 10, 101, 110, 100, 10], noV), by simp [lineOf], k_law41 b⟩
  | .ofNat 42, b => ⟨([100, 114, 111, 112, 10, 101, 110, 100, 10], okV 42), by simp [lineOf], k_law42 b⟩
  | .ofNat 43, b => ⟨([101, 109, 112, 116, 121, 108, 105, 115, 116, 10, 101, 110, 100, 10], okV 43), by simp [lineOf], k_law43 b⟩
  | .ofNat 44, b => ⟨([101, 109, 112, 116, 121, 111, 98, 106, 101, 99, 116, 10, 101, 110, 100, 10], okV 44), by simp [lineOf], k_law44 b⟩
  | .ofNat 45, b => ⟨([118, 97, 114, 105, 97, 98, 108, 101, 10, 101, 110, 100, 10], noV), by simp [lineOf], k_law45 b⟩
  | .ofNat (k + 46), b => ⟨([101, 110, 100, 10, 101, 110, 100, 10], okV 0), by simp [lineOf], k_lawHi k b⟩
  | .negSucc k, b => ⟨([101, 110, 100, 10, 101, 110, 100, 10], okV 0), by simp [lineOf], k_lawLo k b⟩
end Go.Sim.Ir

