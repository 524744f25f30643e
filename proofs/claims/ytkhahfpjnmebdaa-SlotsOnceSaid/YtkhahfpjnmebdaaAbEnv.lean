import Derived.Test.YtkhahfpjnmebdaaAbTab
import Derived.Test.YtkhahfpjnmebdaaChecked
import Derived.KernelRfl
/- The types of the translation as the evaluator asks of them. -/
namespace Go.Proofs.Ytkhahfpjnmebdaa.Ab
abbrev T2 : Ty := .int .i64
abbrev T3 : Ty := .int .i64
abbrev T4 : Ty := .bool
abbrev T5 : Ty := .int .u8
abbrev T6 : Ty := .int .u8
abbrev T7 : Ty := .pair (.int .i64) (.pair (.int .i64) (.pair (.bool) (.int .u8)))
abbrev T8 : Ty := .pair (.int .i64) (.pair (.int .i64) (.pair (.bool) (.int .u8)))
abbrev T9 : Ty := .str
abbrev T10 : Ty := .str
abbrev T11 : Ty := .str
abbrev T12 : Ty := .int .u64
abbrev T13 : Ty := .pair (.str) (.int .u64)
abbrev T14 : Ty := .pair (.str) (.int .u64)
abbrev T21 : Ty := .int .i32
abbrev T22 : Ty := .sl 34 (.pair (.int .u8) (.pair (.int .u8) (.int .u8)))
abbrev T23 : Ty := .pair (.int .i64) (.int .i64)
abbrev T24 : Ty := .pair (.int .i64) (.int .i64)
abbrev T26 : Ty := .sl 3 (.int .i64)
abbrev T27 : Ty := .sl 4 (.bool)
abbrev T28 : Ty := .pair (.sl 3 (.int .i64)) (.sl 4 (.bool))
abbrev T29 : Ty := .pair (.sl 3 (.int .i64)) (.sl 4 (.bool))
abbrev T31 : Ty := .pair (.sl 3 (.int .i64)) (.sl 4 (.bool))
abbrev T33 : Ty := .sl 24 (.pair (.int .i64) (.int .i64))
abbrev T34 : Ty := .pair (.int .u8) (.pair (.int .u8) (.int .u8))
abbrev T48 : Ty := .sl 5 (.int .u8)
abbrev T66 : Ty := .int .u32
abbrev T67 : Ty := .int .u8
abbrev T68 : Ty := .int .u8
abbrev T71 : Ty := .int .i32
abbrev T72 : Ty := .int .i32
def tab : Tab where
  ty := [(2, T2), (3, T3), (4, T4), (5, T5), (6, T6), (7, T7), (8, T8), (9, T9), (10, T10), (11, T11), (12, T12), (13, T13), (14, T14), (21, T21), (22, T22), (23, T23), (24, T24), (26, T26), (27, T27), (28, T28), (29, T29), (31, T31), (33, T33), (34, T34), (48, T48), (66, T66), (67, T67), (68, T68), (71, T71), (72, T72)]
  byt := [(2, 8), (3, 8), (4, 1), (5, 1), (6, 1), (7, 24), (8, 24), (9, 16), (10, 16), (11, 16), (12, 8), (13, 24), (14, 24), (21, 4), (22, 24), (23, 16), (24, 16), (26, 24), (27, 24), (28, 48), (29, 48), (31, 48), (33, 24), (34, 3), (48, 24), (66, 4), (67, 1), (68, 1), (71, 4), (72, 4)]
  agg := [(7, ()), (8, ()), (13, ()), (14, ()), (23, ()), (24, ()), (28, ()), (29, ()), (31, ()), (34, ())]
  elem := [(22, 34), (26, 3), (27, 4), (33, 24), (48, 5)]
  ik := [(2, .i64), (3, .i64), (5, .u8), (6, .u8), (12, .u64), (21, .i32), (66, .u32), (67, .u8), (68, .u8), (71, .i32), (72, .i32)]
  arr := [(34, (3, 5))]
  fld := [(7, [(0, 2), (1, 3), (2, 4), (3, 6)]), (8, [(0, 2), (1, 3), (2, 4), (3, 6)]), (13, [(0, 9), (1, 12)]), (14, [(0, 9), (1, 12)]), (23, [(0, 3), (1, 3)]), (24, [(0, 3), (1, 3)]), (28, [(0, 26), (1, 27)]), (29, [(0, 26), (1, 27)]), (31, [(0, 26), (1, 27)])]
  map := [(55, (24, 4))]
  eq := [(2, ()), (3, ()), (4, ()), (5, ()), (6, ()), (7, ()), (8, ()), (12, ()), (21, ()), (23, ()), (24, ()), (34, ()), (66, ()), (67, ()), (68, ()), (71, ()), (72, ())]
theorem tabOK : TabOK Try.prog tab := ⟨by kernel_rfl, by kernel_rfl, by kernel_rfl, by kernel_rfl, by kernel_rfl, by kernel_rfl, by kernel_rfl, by kernel_rfl, by kernel_rfl, by kernel_rfl, by kernel_rfl, by kernel_rfl⟩
theorem mix : Try.prog.follows .mixedOrders = true := by kernel_rfl
end Go.Proofs.Ytkhahfpjnmebdaa.Ab
