import Derived.Test.YtjnnjciedbgmiaaAbTab
import Derived.Test.YtjnnjciedbgmiaaChecked
import Derived.KernelRfl
/- The types of the translation as the evaluator asks of them. -/
namespace Go.Proofs.Ytjnnjciedbgmiaa.Ab
abbrev T2 : Ty := .int .i64
abbrev T3 : Ty := .int .i64
abbrev T4 : Ty := .bool
abbrev T5 : Ty := .int .u8
abbrev T6 : Ty := .int .u8
abbrev T7 : Ty := .pair (.int .i64) (.pair (.int .i64) (.pair (.bool) (.int .u8)))
abbrev T8 : Ty := .pair (.int .i64) (.pair (.int .i64) (.pair (.bool) (.int .u8)))
abbrev T9 : Ty := .str
abbrev T10 : Ty := .str
abbrev T11 : Ty := .str
abbrev T12 : Ty := .int .u64
abbrev T13 : Ty := .pair (.str) (.int .u64)
abbrev T14 : Ty := .pair (.str) (.int .u64)
abbrev T21 : Ty := .int .i32
abbrev T22 : Ty := .sl 41 (.pair (.int .i64) (.pair (.int .i64) (.pair (.int .i64) (.int .i64))))
abbrev T23 : Ty := .sl 5 (.int .u8)
abbrev T29 : Ty := .sl 22 (.sl 41 (.pair (.int .i64) (.pair (.int .i64) (.pair (.int .i64) (.int .i64)))))
abbrev T31 : Ty := .sl 3 (.int .i64)
abbrev T35 : Ty := .pair (.int .i64) (.pair (.int .i64) (.pair (.int .i64) (.pair (.int .i64) (.pair (.int .i64) (.pair (.int .i64) (.pair (.int .i64) (.int .i64)))))))
abbrev T36 : Ty := .sl 82 (.pair (.int .i64) (.pair (.int .i64) (.int .i64)))
abbrev T37 : Ty := .pair (.int .i64) (.pair (.pair (.int .i64) (.pair (.int .i64) (.pair (.int .i64) (.pair (.int .i64) (.pair (.int .i64) (.pair (.int .i64) (.pair (.int .i64) (.int .i64)))))))) (.pair (.sl 82 (.pair (.int .i64) (.pair (.int .i64) (.int .i64)))) (.bool)))
abbrev T38 : Ty := .pair (.int .i64) (.pair (.pair (.int .i64) (.pair (.int .i64) (.pair (.int .i64) (.pair (.int .i64) (.pair (.int .i64) (.pair (.int .i64) (.pair (.int .i64) (.int .i64)))))))) (.pair (.sl 82 (.pair (.int .i64) (.pair (.int .i64) (.int .i64)))) (.bool)))
abbrev T40 : Ty := .pair (.int .i64) (.pair (.int .i64) (.pair (.int .i64) (.int .i64)))
abbrev T41 : Ty := .pair (.int .i64) (.pair (.int .i64) (.pair (.int .i64) (.int .i64)))
abbrev T48 : Ty := .sl 54 (.pair (.int .i64) (.int .i64))
abbrev T49 : Ty := .pair (.int .i64) (.pair (.int .i64) (.sl 54 (.pair (.int .i64) (.int .i64))))
abbrev T50 : Ty := .pair (.int .i64) (.pair (.int .i64) (.sl 54 (.pair (.int .i64) (.int .i64))))
abbrev T53 : Ty := .pair (.int .i64) (.int .i64)
abbrev T54 : Ty := .pair (.int .i64) (.int .i64)
abbrev T55 : Ty := .pair (.int .i64) (.pair (.int .i64) (.pair (.int .i64) (.int .i64)))
abbrev T58 : Ty := .sl 2 (.int .i64)
abbrev T59 : Ty := .pair (.sl 5 (.int .u8)) (.int .i64)
abbrev T60 : Ty := .pair (.sl 5 (.int .u8)) (.int .i64)
abbrev T65 : Ty := .sl 68 (.pair (.int .i64) (.pair (.int .i64) (.pair (.int .i64) (.bool))))
abbrev T67 : Ty := .pair (.int .i64) (.pair (.int .i64) (.pair (.int .i64) (.bool)))
abbrev T68 : Ty := .pair (.int .i64) (.pair (.int .i64) (.pair (.int .i64) (.bool)))
abbrev T73 : Ty := .sl 76 (.pair (.bool) (.pair (.bool) (.pair (.bool) (.pair (.bool) (.pair (.bool) (.pair (.bool) (.pair (.bool) (.pair (.bool) (.pair (.bool) (.pair (.bool) (.pair (.bool) (.pair (.bool) (.pair (.bool) (.pair (.bool) (.pair (.bool) (.pair (.bool) (.pair (.bool) (.pair (.bool) (.pair (.bool) (.pair (.bool) (.pair (.bool) (.pair (.bool) (.pair (.bool) (.bool))))))))))))))))))))))))
abbrev T75 : Ty := .pair (.bool) (.pair (.bool) (.pair (.bool) (.pair (.bool) (.pair (.bool) (.pair (.bool) (.pair (.bool) (.pair (.bool) (.pair (.bool) (.pair (.bool) (.pair (.bool) (.pair (.bool) (.pair (.bool) (.pair (.bool) (.pair (.bool) (.pair (.bool) (.pair (.bool) (.pair (.bool) (.pair (.bool) (.pair (.bool) (.pair (.bool) (.pair (.bool) (.pair (.bool) (.bool)))))))))))))))))))))))
abbrev T76 : Ty := .pair (.bool) (.pair (.bool) (.pair (.bool) (.pair (.bool) (.pair (.bool) (.pair (.bool) (.pair (.bool) (.pair (.bool) (.pair (.bool) (.pair (.bool) (.pair (.bool) (.pair (.bool) (.pair (.bool) (.pair (.bool) (.pair (.bool) (.pair (.bool) (.pair (.bool) (.pair (.bool) (.pair (.bool) (.pair (.bool) (.pair (.bool) (.pair (.bool) (.pair (.bool) (.bool)))))))))))))))))))))))
abbrev T81 : Ty := .pair (.int .i64) (.pair (.int .i64) (.int .i64))
abbrev T82 : Ty := .pair (.int .i64) (.pair (.int .i64) (.int .i64))
abbrev T85 : Ty := .int .i64
abbrev T86 : Ty := .int .i64
abbrev T88 : Ty := .sl 91 (.pair (.int .i64) (.pair (.int .i64) (.pair (.int .i64) (.bool))))
abbrev T90 : Ty := .pair (.int .i64) (.pair (.int .i64) (.pair (.int .i64) (.bool)))
abbrev T91 : Ty := .pair (.int .i64) (.pair (.int .i64) (.pair (.int .i64) (.bool)))
abbrev T94 : Ty := .int .u64
abbrev T102 : Ty := .int .u64
abbrev T103 : Ty := .int .u32
abbrev T111 : Ty := .int .u8
abbrev T112 : Ty := .int .u8
abbrev T115 : Ty := .int .i32
abbrev T116 : Ty := .int .i32
def tab : Tab where
  ty := [(2, T2), (3, T3), (4, T4), (5, T5), (6, T6), (7, T7), (8, T8), (9, T9), (10, T10), (11, T11), (12, T12), (13, T13), (14, T14), (21, T21), (22, T22), (23, T23), (29, T29), (31, T31), (35, T35), (36, T36), (37, T37), (38, T38), (40, T40), (41, T41), (48, T48), (49, T49), (50, T50), (53, T53), (54, T54), (55, T55), (58, T58), (59, T59), (60, T60), (65, T65), (67, T67), (68, T68), (73, T73), (75, T75), (76, T76), (81, T81), (82, T82), (85, T85), (86, T86), (88, T88), (90, T90), (91, T91), (94, T94), (102, T102), (103, T103), (111, T111), (112, T112), (115, T115), (116, T116)]
  byt := [(2, 8), (3, 8), (4, 1), (5, 1), (6, 1), (7, 24), (8, 24), (9, 16), (10, 16), (11, 16), (12, 8), (13, 24), (14, 24), (21, 4), (22, 24), (23, 24), (29, 24), (31, 24), (35, 64), (36, 24), (37, 104), (38, 104), (40, 32), (41, 32), (48, 24), (49, 40), (50, 40), (53, 16), (54, 16), (55, 32), (58, 24), (59, 32), (60, 32), (65, 24), (67, 32), (68, 32), (73, 24), (75, 24), (76, 24), (81, 24), (82, 24), (85, 8), (86, 8), (88, 24), (90, 32), (91, 32), (94, 8), (102, 8), (103, 4), (111, 1), (112, 1), (115, 4), (116, 4)]
  agg := [(7, ()), (8, ()), (13, ()), (14, ()), (35, ()), (37, ()), (38, ()), (40, ()), (41, ()), (49, ()), (50, ()), (53, ()), (54, ()), (55, ()), (59, ()), (60, ()), (67, ()), (68, ()), (75, ()), (76, ()), (81, ()), (82, ()), (85, ()), (86, ()), (90, ()), (91, ())]
  elem := [(22, 41), (23, 5), (29, 22), (31, 3), (36, 82), (48, 54), (58, 2), (65, 68), (73, 76), (88, 91)]
  ik := [(2, .i64), (3, .i64), (5, .u8), (6, .u8), (12, .u64), (21, .i32), (94, .u64), (102, .u64), (103, .u32), (111, .u8), (112, .u8), (115, .i32), (116, .i32)]
  arr := [(35, (8, 2)), (55, (4, 3)), (75, (24, 4)), (76, (24, 4))]
  fld := [(7, [(0, 2), (1, 3), (2, 4), (3, 6)]), (8, [(0, 2), (1, 3), (2, 4), (3, 6)]), (13, [(0, 9), (1, 12)]), (14, [(0, 9), (1, 12)]), (37, [(0, 3), (1, 35), (9, 36), (10, 4)]), (38, [(0, 3), (1, 35), (9, 36), (10, 4)]), (40, [(0, 3), (1, 3), (2, 3), (3, 3)]), (41, [(0, 3), (1, 3), (2, 3), (3, 3)]), (49, [(0, 2), (1, 2), (2, 48)]), (50, [(0, 2), (1, 2), (2, 48)]), (53, [(0, 3), (1, 3)]), (54, [(0, 3), (1, 3)]), (59, [(0, 23), (1, 3)]), (60, [(0, 23), (1, 3)]), (67, [(0, 3), (1, 3), (2, 3), (3, 4)]), (68, [(0, 3), (1, 3), (2, 3), (3, 4)]), (81, [(0, 3), (1, 3), (2, 3)]), (82, [(0, 3), (1, 3), (2, 3)]), (85, [(0, 3)]), (86, [(0, 3)]), (90, [(0, 3), (1, 3), (2, 3), (3, 4)]), (91, [(0, 3), (1, 3), (2, 3), (3, 4)])]
  map := [(78, (76, 3))]
  eq := [(2, ()), (3, ()), (4, ()), (5, ()), (6, ()), (7, ()), (8, ()), (12, ()), (21, ()), (35, ()), (40, ()), (41, ()), (53, ()), (54, ()), (55, ()), (67, ()), (68, ()), (75, ()), (76, ()), (81, ()), (82, ()), (85, ()), (86, ()), (90, ()), (91, ()), (94, ()), (102, ()), (103, ()), (111, ()), (112, ()), (115, ()), (116, ())]
theorem tabOK : TabOK Try.prog tab := ⟨by kernel_rfl, by kernel_rfl, by kernel_rfl, by kernel_rfl, by kernel_rfl, by kernel_rfl, by kernel_rfl, by kernel_rfl, by kernel_rfl, by kernel_rfl, by kernel_rfl, by kernel_rfl⟩
theorem mix : Try.prog.follows .mixedOrders = true := by kernel_rfl
end Go.Proofs.Ytjnnjciedbgmiaa.Ab
