/- Each name, read of a line. Conditions: none. -/
import Derived.Test.YthegbcgdpkpiiaaGreatDoorKb
set_option linter.all false
namespace Go.Sim.Ir
def okV (a : Int) : V := .tup [.agg [.sl 2 [.int .i64 a, .int .i64 0, .int .i64 0, .int .i64 0, .int .i64 0, .int .i64 0] .none, .sl 0 [] .none], .int .i64 0, .int .i64 0]
def noV : V := .tup [.agg [.sl 0 [] .none, .sl 0 [] .none], .int .i64 1, .int .i64 33]
def shortV : V := .tup [.agg [.sl 0 [] .none, .sl 0 [] .none], .int .i64 1, .int .i64 33]
theorem k_read0 : eval E1 300 (.fn 8 []) [.str [101, 110, 100, 10, 101, 110, 100, 10]] .off h00 = outV (okV 0) := by kernel_rfl
theorem k_read1 : eval E1 300 (.fn 8 []) [.str [99, 111, 110, 115, 116, 10, 101, 110, 100, 10]] .off h00 = outV (noV) := by kernel_rfl
theorem k_read2 : eval E1 300 (.fn 8 []) [.str [112, 117, 115, 104, 10, 101, 110, 100, 10]] .off h00 = outV (okV 2) := by kernel_rfl
theorem k_read3 : eval E1 300 (.fn 8 []) [.str [111, 102, 102, 10, 101, 110, 100, 10]] .off h00 = outV (okV 3) := by kernel_rfl
theorem k_read4 : eval E1 300 (.fn 8 []) [.str [115, 119, 97, 112, 10, 101, 110, 100, 10]] .off h00 = outV (okV 4) := by kernel_rfl
theorem k_read5 : eval E1 300 (.fn 8 []) [.str [106, 117, 109, 112, 10, 101, 110, 100, 10]] .off h00 = outV (noV) := by kernel_rfl
theorem k_read6 : eval E1 300 (.fn 8 []) [.str [102, 111, 114, 107, 10, 101, 110, 100, 10]] .off h00 = outV (noV) := by kernel_rfl
theorem k_read7 : eval E1 300 (.fn 8 []) [.str [98, 97, 99, 107, 10, 101, 110, 100, 10]] .off h00 = outV (okV 7) := by kernel_rfl
theorem k_read8 : eval E1 300 (.fn 8 []) [.str [105, 110, 100, 101, 120, 10, 101, 110, 100, 10]] .off h00 = outV (okV 8) := by kernel_rfl
theorem k_read9 : eval E1 300 (.fn 8 []) [.str [101, 97, 99, 104, 10, 101, 110, 100, 10]] .off h00 = outV (okV 9) := by kernel_rfl
theorem k_read10 : eval E1 300 (.fn 8 []) [.str [99, 101, 108, 108, 10, 101, 110, 100, 10]] .off h00 = outV (okV 10) := by kernel_rfl
theorem k_read11 : eval E1 300 (.fn 8 []) [.str [97, 112, 112, 101, 110, 100, 10, 101, 110, 100, 10]] .off h00 = outV (okV 11) := by kernel_rfl
theorem k_read12 : eval E1 300 (.fn 8 []) [.str [108, 111, 97, 100, 10, 101, 110, 100, 10]] .off h00 = outV (okV 12) := by kernel_rfl
theorem k_read13 : eval E1 300 (.fn 8 []) [.str [108, 111, 115, 101, 10, 101, 110, 100, 10]] .off h00 = outV (okV 13) := by kernel_rfl
theorem k_read14 : eval E1 300 (.fn 8 []) [.str [112, 105, 99, 107, 10, 101, 110, 100, 10]] .off h00 = outV (noV) := by kernel_rfl
theorem k_read15 : eval E1 300 (.fn 8 []) [.str [101, 110, 116, 114, 121, 10, 101, 110, 100, 10]] .off h00 = outV (okV 15) := by kernel_rfl
theorem k_read16 : eval E1 300 (.fn 8 []) [.str [110, 97, 116, 105, 118, 101, 10, 101, 110, 100, 10]] .off h00 = outV (noV) := by kernel_rfl
theorem k_read17 : eval E1 300 (.fn 8 []) [.str [111, 112, 101, 114, 97, 116, 111, 114, 10, 101, 110, 100, 10]] .off h00 = outV (noV) := by kernel_rfl
theorem k_read18 : eval E1 300 (.fn 8 []) [.str [109, 105, 110, 117, 115, 10, 101, 110, 100, 10]] .off h00 = outV (okV 18) := by kernel_rfl
theorem k_read19 : eval E1 300 (.fn 8 []) [.str [116, 101, 115, 116, 10, 101, 110, 100, 10]] .off h00 = outV (noV) := by kernel_rfl
theorem k_read20 : eval E1 300 (.fn 8 []) [.str [116, 114, 121, 10, 101, 110, 100, 10]] .off h00 = outV (noV) := by kernel_rfl
theorem k_read21 : eval E1 300 (.fn 8 []) [.str [108, 101, 97, 118, 101, 10, 101, 110, 100, 10]] .off h00 = outV (okV 21) := by kernel_rfl
theorem k_read22 : eval E1 300 (.fn 8 []) [.str [111, 114, 101, 108, 115, 101, 10, 101, 110, 100, 10]] .off h00 = outV (noV) := by kernel_rfl
theorem k_read23 : eval E1 300 (.fn 8 []) [.str [102, 111, 117, 110, 100, 10, 101, 110, 100, 10]] .off h00 = outV (okV 23) := by kernel_rfl
theorem k_read24 : eval E1 300 (.fn 8 []) [.str [108, 97, 98, 101, 108, 10, 101, 110, 100, 10]] .off h00 = outV (okV 24) := by kernel_rfl
theorem k_read25 : eval E1 300 (.fn 8 []) [.str [98, 114, 101, 97, 107, 10, 101, 110, 100, 10]] .off h00 = outV (noV) := by kernel_rfl
theorem k_read26 : eval E1 300 (.fn 8 []) [.str [98, 105, 110, 100, 10, 101, 110, 100, 10]] .off h00 = outV (okV 26) := by kernel_rfl
theorem k_read27 : eval E1 300 (.fn 8 []) [.str [117, 110, 98, 105, 110, 100, 10, 101, 110, 100, 10]] .off h00 = outV (noV) := by kernel_rfl
theorem k_read28 : eval E1 300 (.fn 8 []) [.str [100, 101, 102, 105, 110, 101, 10, 101, 110, 100, 10]] .off h00 = outV (noV) := by kernel_rfl
theorem k_read29 : eval E1 300 (.fn 8 []) [.str [97, 114, 103, 117, 109, 101, 110, 116, 10, 101, 110, 100, 10]] .off h00 = outV (noV) := by kernel_rfl
theorem k_read30 : eval E1 300 (.fn 8 []) [.str [99, 97, 108, 108, 10, 101, 110, 100, 10]] .off h00 = outV (noV) := by kernel_rfl
theorem k_read31 : eval E1 300 (.fn 8 []) [.str [99, 97, 108, 108, 112, 97, 114, 97, 109, 10, 101, 110, 100, 10]] .off h00 = outV (noV) := by kernel_rfl
theorem k_read32 : eval E1 300 (.fn 8 []) [.str [114, 101, 116, 117, 114, 110, 10, 101, 110, 100, 10]] .off h00 = outV (okV 32) := by kernel_rfl
theorem k_read33 : eval E1 300 (.fn 8 []) [.str [116, 97, 105, 108, 99, 97, 108, 108, 10, 101, 110, 100, 10]] .off h00 = outV (noV) := by kernel_rfl
theorem k_read34 : eval E1 300 (.fn 8 []) [.str [116, 97, 105, 108, 112, 97, 114, 97, 109, 10, 101, 110, 100, 10]] .off h00 = outV (noV) := by kernel_rfl
theorem k_read35 : eval E1 300 (.fn 8 []) [.str [115, 116, 111, 114, 101, 10, 101, 110, 100, 10]] .off h00 = outV (okV 35) := by kernel_rfl
theorem k_read36 : eval E1 300 (.fn 8 []) [.str [112, 97, 116, 104, 115, 111, 110, 10, 101, 110, 100, 10]] .off h00 = outV (okV 36) := by kernel_rfl
theorem k_read37 : eval E1 300 (.fn 8 []) [.str [112, 97, 116, 104, 115, 101, 110, 100, 10, 101, 110, 100, 10]] .off h00 = outV (okV 37) := by kernel_rfl
theorem k_read38 : eval E1 300 (.fn 8 []) [.str [97, 108, 111, 110, 103, 10, 101, 110, 100, 10]] .off h00 = outV (okV 38) := by kernel_rfl
theorem k_read39 : eval E1 300 (.fn 8 []) [.str [116, 104, 114, 111, 119, 10, 101, 110, 100, 10]] .off h00 = outV (okV 39) := by kernel_rfl
theorem k_read40 : eval E1 300 (.fn 8 []) [.str [105, 110, 112, 117, 116, 10, 101, 110, 100, 10]] .off h00 = outV (okV 40) := by kernel_rfl
theorem k_read41 : eval E1 300 (.fn 8 []) [.str [99, 111, 112, 121, 10, 101, 110, 100, 10]] .off h00 = outV (noV) := by kernel_rfl
theorem k_read42 : eval E1 300 (.fn 8 []) [.str [100, 114, 111, 112, 10, 101, 110, 100, 10]] .off h00 = outV (okV 42) := by kernel_rfl
theorem k_read43 : eval E1 300 (.fn 8 []) [.str [101, 109, 112, 116, 121, 108, 105, 115, 116, 10, 101, 110, 100, 10]] .off h00 = outV (okV 43) := by kernel_rfl
theorem k_read44 : eval E1 300 (.fn 8 []) [.str [101, 109, 112, 116, 121, 111, 98, 106, 101, 99, 116, 10, 101, 110, 100, 10]] .off h00 = outV (okV 44) := by kernel_rfl
theorem k_read45 : eval E1 300 (.fn 8 []) [.str [118, 97, 114, 105, 97, 98, 108, 101, 10, 101, 110, 100, 10]] .off h00 = outV (noV) := by kernel_rfl
end Go.Sim.Ir

