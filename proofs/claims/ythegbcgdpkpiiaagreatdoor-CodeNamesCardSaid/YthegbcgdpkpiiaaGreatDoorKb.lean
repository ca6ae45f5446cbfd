/- The page's example. Conditions: none. -/
import Derived.Test.YthegbcgdpkpiiaaGreatDoorKa
set_option linter.all false
/- The page's example. -/
namespace Go.Sim.Ir
def orc1 (f : Nat) (args : List V) : Option V := bif Nat.beq f 36 then (match args with | [] => some opsV | _ => none) else none
def E1 : Env := { fn := tbl, orc := orc1, split := spl, wr := fun _ => false }
theorem k_alive : eval E1 300 (.fn 7 []) [] .off h00 = outV (.bool true) := by kernel_rfl
end Go.Sim.Ir

/- The names, of any number. -/
set_option maxRecDepth 100000
namespace Go.Sim.Ir
def opStrs : List (List Nat) := [[101, 110, 100], [99, 111, 110, 115, 116], [112, 117, 115, 104], [111, 102, 102], [115, 119, 97, 112], [106, 117, 109, 112], [102, 111, 114, 107], [98, 97, 99, 107], [105, 110, 100, 101, 120], [101, 97, 99, 104], [99, 101, 108, 108], [97, 112, 112, 101, 110, 100], [108, 111, 97, 100], [108, 111, 115, 101], [112, 105, 99, 107], [101, 110, 116, 114, 121], [110, 97, 116, 105, 118, 101], [111, 112, 101, 114, 97, 116, 111, 114], [109, 105, 110, 117, 115], [116, 101, 115, 116], [116, 114, 121], [108, 101, 97, 118, 101], [111, 114, 101, 108, 115, 101], [102, 111, 117, 110, 100], [108, 97, 98, 101, 108], [98, 114, 101, 97, 107], [98, 105, 110, 100], [117, 110, 98, 105, 110, 100], [100, 101, 102, 105, 110, 101], [97, 114, 103, 117, 109, 101, 110, 116], [99, 97, 108, 108], [99, 97, 108, 108, 112, 97, 114, 97, 109], [114, 101, 116, 117, 114, 110], [116, 97, 105, 108, 99, 97, 108, 108], [116, 97, 105, 108, 112, 97, 114, 97, 109], [115, 116, 111, 114, 101], [112, 97, 116, 104, 115, 111, 110], [112, 97, 116, 104, 115, 101, 110, 100], [97, 108, 111, 110, 103], [116, 104, 114, 111, 119], [105, 110, 112, 117, 116], [99, 111, 112, 121], [100, 114, 111, 112], [101, 109, 112, 116, 121, 108, 105, 115, 116], [101, 109, 112, 116, 121, 111, 98, 106, 101, 99, 116], [118, 97, 114, 105, 97, 98, 108, 101]]
def nth : List (List Nat) → Nat → List Nat
  | [], _ => []
  | x :: _, 0 => x
  | _ :: xs, m + 1 => nth xs m
def nameOf : Int → List Nat
  | .ofNat m => nth opStrs m
  | .negSucc _ => []
theorem k_name0 : eval E1 300 (.fn 13 []) [.int .i64 (.ofNat 0)] .off h00 = outV (.str (nameOf (.ofNat 0))) := by kernel_rfl
theorem k_name1 : eval E1 300 (.fn 13 []) [.int .i64 (.ofNat 1)] .off h00 = outV (.str (nameOf (.ofNat 1))) := by kernel_rfl
theorem k_name2 : eval E1 300 (.fn 13 []) [.int .i64 (.ofNat 2)] .off h00 = outV (.str (nameOf (.ofNat 2))) := by kernel_rfl
theorem k_name3 : eval E1 300 (.fn 13 []) [.int .i64 (.ofNat 3)] .off h00 = outV (.str (nameOf (.ofNat 3))) := by kernel_rfl
theorem k_name4 : eval E1 300 (.fn 13 []) [.int .i64 (.ofNat 4)] .off h00 = outV (.str (nameOf (.ofNat 4))) := by kernel_rfl
theorem k_name5 : eval E1 300 (.fn 13 []) [.int .i64 (.ofNat 5)] .off h00 = outV (.str (nameOf (.ofNat 5))) := by kernel_rfl
theorem k_name6 : eval E1 300 (.fn 13 []) [.int .i64 (.ofNat 6)] .off h00 = outV (.str (nameOf (.ofNat 6))) := by kernel_rfl
theorem k_name7 : eval E1 300 (.fn 13 []) [.int .i64 (.ofNat 7)] .off h00 = outV (.str (nameOf (.ofNat 7))) := by kernel_rfl
theorem k_name8 : eval E1 300 (.fn 13 []) [.int .i64 (.ofNat 8)] .off h00 = outV (.str (nameOf (.ofNat 8))) := by kernel_rfl
theorem k_name9 : eval E1 300 (.fn 13 []) [.int .i64 (.ofNat 9)] .off h00 = outV (.str (nameOf (.ofNat 9))) := by kernel_rfl
theorem k_name10 : eval E1 300 (.fn 13 []) [.int .i64 (.ofNat 10)] .off h00 = outV (.str (nameOf (.ofNat 10))) := by kernel_rfl
theorem k_name11 : eval E1 300 (.fn 13 []) [.int .i64 (.ofNat 11)] .off h00 = outV (.str (nameOf (.ofNat 11))) := by kernel_rfl
theorem k_name12 : eval E1 300 (.fn 13 []) [.int .i64 (.ofNat 12)] .off h00 = outV (.str (nameOf (.ofNat 12))) := by kernel_rfl
theorem k_name13 : eval E1 300 (.fn 13 []) [.int .i64 (.ofNat 13)] .off h00 = outV (.str (nameOf (.ofNat 13))) := by kernel_rfl
theorem k_name14 : eval E1 300 (.fn 13 []) [.int .i64 (.ofNat 14)] .off h00 = outV (.str (nameOf (.ofNat 14))) := by kernel_rfl
theorem k_name15 : eval E1 300 (.fn 13 []) [.int .i64 (.ofNat 15)] .off h00 = outV (.str (nameOf (.ofNat 15))) := by kernel_rfl
theorem k_name16 : eval E1 300 (.fn 13 []) [.int .i64 (.ofNat 16)] .off h00 = outV (.str (nameOf (.ofNat 16))) := by kernel_rfl
theorem k_name17 : eval E1 300 (.fn 13 []) [.int .i64 (.ofNat 17)] .off h00 = outV (.str (nameOf (.ofNat 17))) := by kernel_rfl
theorem k_name18 : eval E1 300 (.fn 13 []) [.int .i64 (.ofNat 18)] .off h00 = outV (.str (nameOf (.ofNat 18))) := by kernel_rfl
theorem k_name19 : eval E1 300 (.fn 13 []) [.int .i64 (.ofNat 19)] .off h00 = outV (.str (nameOf (.ofNat 19))) := by kernel_rfl
theorem k_name20 : eval E1 300 (.fn 13 []) [.int .i64 (.ofNat 20)] .off h00 = outV (.str (nameOf (.ofNat 20))) := by kernel_rfl
theorem k_name21 : eval E1 300 (.fn 13 []) [.int .i64 (.ofNat 21)] .off h00 = outV (.str (nameOf (.ofNat 21))) := by kernel_rfl
theorem k_name22 : eval E1 300 (.fn 13 []) [.int .i64 (.ofNat 22)] .off h00 = outV (.str (nameOf (.ofNat 22))) := by kernel_rfl
theorem k_name23 : eval E1 300 (.fn 13 []) [.int .i64 (.ofNat 23)] .off h00 = outV (.str (nameOf (.ofNat 23))) := by kernel_rfl
theorem k_name24 : eval E1 300 (.fn 13 []) [.int .i64 (.ofNat 24)] .off h00 = outV (.str (nameOf (.ofNat 24))) := by kernel_rfl
theorem k_name25 : eval E1 300 (.fn 13 []) [.int .i64 (.ofNat 25)] .off h00 = outV (.str (nameOf (.ofNat 25))) := by kernel_rfl
theorem k_name26 : eval E1 300 (.fn 13 []) [.int .i64 (.ofNat 26)] .off h00 = outV (.str (nameOf (.ofNat 26))) := by kernel_rfl
theorem k_name27 : eval E1 300 (.fn 13 []) [.int .i64 (.ofNat 27)] .off h00 = outV (.str (nameOf (.ofNat 27))) := by kernel_rfl
theorem k_name28 : eval E1 300 (.fn 13 []) [.int .i64 (.ofNat 28)] .off h00 = outV (.str (nameOf (.ofNat 28))) := by kernel_rfl
theorem k_name29 : eval E1 300 (.fn 13 []) [.int .i64 (.ofNat 29)] .off h00 = outV (.str (nameOf (.ofNat 29))) := by kernel_rfl
theorem k_name30 : eval E1 300 (.fn 13 []) [.int .i64 (.ofNat 30)] .off h00 = outV (.str (nameOf (.ofNat 30))) := by kernel_rfl
theorem k_name31 : eval E1 300 (.fn 13 []) [.int .i64 (.ofNat 31)] .off h00 = outV (.str (nameOf (.ofNat 31))) := by kernel_rfl
theorem k_name32 : eval E1 300 (.fn 13 []) [.int .i64 (.ofNat 32)] .off h00 = outV (.str (nameOf (.ofNat 32))) := by kernel_rfl
theorem k_name33 : eval E1 300 (.fn 13 []) [.int .i64 (.ofNat 33)] .off h00 = outV (.str (nameOf (.ofNat 33))) := by kernel_rfl
theorem k_name34 : eval E1 300 (.fn 13 []) [.int .i64 (.ofNat 34)] .off h00 = outV (.str (nameOf (.ofNat 34))) := by kernel_rfl
theorem k_name35 : eval E1 300 (.fn 13 []) [.int .i64 (.ofNat 35)] .off h00 = outV (.str (nameOf (.ofNat 35))) := by kernel_rfl
theorem k_name36 : eval E1 300 (.fn 13 []) [.int .i64 (.ofNat 36)] .off h00 = outV (.str (nameOf (.ofNat 36))) := by kernel_rfl
theorem k_name37 : eval E1 300 (.fn 13 []) [.int .i64 (.ofNat 37)] .off h00 = outV (.str (nameOf (.ofNat 37))) := by kernel_rfl
theorem k_name38 : eval E1 300 (.fn 13 []) [.int .i64 (.ofNat 38)] .off h00 = outV (.str (nameOf (.ofNat 38))) := by kernel_rfl
theorem k_name39 : eval E1 300 (.fn 13 []) [.int .i64 (.ofNat 39)] .off h00 = outV (.str (nameOf (.ofNat 39))) := by kernel_rfl
theorem k_name40 : eval E1 300 (.fn 13 []) [.int .i64 (.ofNat 40)] .off h00 = outV (.str (nameOf (.ofNat 40))) := by kernel_rfl
theorem k_name41 : eval E1 300 (.fn 13 []) [.int .i64 (.ofNat 41)] .off h00 = outV (.str (nameOf (.ofNat 41))) := by kernel_rfl
theorem k_name42 : eval E1 300 (.fn 13 []) [.int .i64 (.ofNat 42)] .off h00 = outV (.str (nameOf (.ofNat 42))) := by kernel_rfl
theorem k_name43 : eval E1 300 (.fn 13 []) [.int .i64 (.ofNat 43)] .off h00 = outV (.str (nameOf (.ofNat 43))) := by kernel_rfl
theorem k_name44 : eval E1 300 (.fn 13 []) [.int .i64 (.ofNat 44)] .off h00 = outV (.str (nameOf (.ofNat 44))) := by kernel_rfl
theorem k_name45 : eval E1 300 (.fn 13 []) [.int .i64 (.ofNat 45)] .off h00 = outV (.str (nameOf (.ofNat 45))) := by kernel_rfl
theorem k_nameHi (k : Nat) : eval E1 300 (.fn 13 []) [.int .i64 (.ofNat (k + 46))] .off h00 = outV (.str (nameOf (.ofNat (k + 46)))) := by kernel_rfl
theorem k_nameLo (k : Nat) : eval E1 300 (.fn 13 []) [.int .i64 (.negSucc k)] .off h00 = outV (.str (nameOf (.negSucc k))) := by kernel_rfl
theorem name_ok : ∀ n : Int, eval E1 300 (.fn 13 []) [.int .i64 n] .off h00 = outV (.str (nameOf n))
  | .ofNat 0 => k_name0
  | .ofNat 1 => k_name1
  | .ofNat 2 => k_name2
  | .ofNat 3 => k_name3
  | .ofNat 4 => k_name4
  | .ofNat 5 => k_name5
  | .ofNat 6 => k_name6
  | .ofNat 7 => k_name7
  | .ofNat 8 => k_name8
  | .ofNat 9 => k_name9
  | .ofNat 10 => k_name10
  | .ofNat 11 => k_name11
  | .ofNat 12 => k_name12
  | .ofNat 13 => k_name13
  | .ofNat 14 => k_name14
  | .ofNat 15 => k_name15
  | .ofNat 16 => k_name16
  | .ofNat 17 => k_name17
  | .ofNat 18 => k_name18
  | .ofNat 19 => k_name19
  | .ofNat 20 => k_name20
  | .ofNat 21 => k_name21
  | .ofNat 22 => k_name22
  | .ofNat 23 => k_name23
  | .ofNat 24 => k_name24
  | .ofNat 25 => k_name25
  | .ofNat 26 => k_name26
  | .ofNat 27 => k_name27
  | .ofNat 28 => k_name28
  | .ofNat 29 => k_name29
  | .ofNat 30 => k_name30
  | .ofNat 31 => k_name31
  | .ofNat 32 => k_name32
  | .ofNat 33 => k_name33
  | .ofNat 34 => k_name34
  | .ofNat 35 => k_name35
  | .ofNat 36 => k_name36
  | .ofNat 37 => k_name37
  | .ofNat 38 => k_name38
  | .ofNat 39 => k_name39
  | .ofNat 40 => k_name40
  | .ofNat 41 => k_name41
  | .ofNat 42 => k_name42
  | .ofNat 43 => k_name43
  | .ofNat 44 => k_name44
  | .ofNat 45 => k_name45
  | .ofNat (k + 46) => k_nameHi k
  | .negSucc k => k_nameLo k
end Go.Sim.Ir

