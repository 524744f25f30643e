import Derived.Test.YtinopkpnlibopaaPbB
import Derived.Test.YtinopkpnlibopaaChecked
import Derived.KernelRfl
/- The types of the translation as the evaluator asks of them. -/
namespace Go.Proofs.Ytinopkpnlibopaa.Ab
abbrev T2 : Ty := .int .i64
abbrev T3 : Ty := .int .i64
abbrev T4 : Ty := .bool
abbrev T5 : Ty := .int .u8
abbrev T6 : Ty := .int .u8
abbrev T7 : Ty := .pair (.int .i64) (.pair (.int .i64) (.pair (.bool) (.int .u8)))
abbrev T8 : Ty := .pair (.int .i64) (.pair (.int .i64) (.pair (.bool) (.int .u8)))
abbrev T9 : Ty := .str
abbrev T10 : Ty := .str
abbrev T11 : Ty := .str
abbrev T12 : Ty := .int .u64
abbrev T13 : Ty := .pair (.str) (.int .u64)
abbrev T14 : Ty := .pair (.str) (.int .u64)
abbrev T21 : Ty := .int .i32
abbrev T22 : Ty := .sl 5 (.int .u8)
abbrev T24 : Ty := .sl 36 (.pair (.int .i64) (.pair (.int .i64) (.pair (.int .i64) (.pair (.sl 60 (.pair (.int .i64) (.pair (.int .i64) (.pair (.int .i64) (.int .i64))))) (.pair (.sl 60 (.pair (.int .i64) (.pair (.int .i64) (.pair (.int .i64) (.int .i64))))) (.sl 60 (.pair (.int .i64) (.pair (.int .i64) (.pair (.int .i64) (.int .i64))))))))))
abbrev T26 : Ty := .sl 2 (.int .i64)
abbrev T27 : Ty := .int .i64
abbrev T31 : Ty := .pair (.sl 2 (.int .i64)) (.pair (.int .i64) (.pair (.int .i64) (.sl 2 (.int .i64))))
abbrev T32 : Ty := .pair (.sl 2 (.int .i64)) (.pair (.int .i64) (.pair (.int .i64) (.sl 2 (.int .i64))))
abbrev T34 : Ty := .sl 60 (.pair (.int .i64) (.pair (.int .i64) (.pair (.int .i64) (.int .i64))))
abbrev T35 : Ty := .pair (.int .i64) (.pair (.int .i64) (.pair (.int .i64) (.pair (.sl 60 (.pair (.int .i64) (.pair (.int .i64) (.pair (.int .i64) (.int .i64))))) (.pair (.sl 60 (.pair (.int .i64) (.pair (.int .i64) (.pair (.int .i64) (.int .i64))))) (.sl 60 (.pair (.int .i64) (.pair (.int .i64) (.pair (.int .i64) (.int .i64)))))))))
abbrev T36 : Ty := .pair (.int .i64) (.pair (.int .i64) (.pair (.int .i64) (.pair (.sl 60 (.pair (.int .i64) (.pair (.int .i64) (.pair (.int .i64) (.int .i64))))) (.pair (.sl 60 (.pair (.int .i64) (.pair (.int .i64) (.pair (.int .i64) (.int .i64))))) (.sl 60 (.pair (.int .i64) (.pair (.int .i64) (.pair (.int .i64) (.int .i64)))))))))
abbrev T44 : Ty := .sl 73 (.pair (.int .i64) (.int .i64))
abbrev T50 : Ty := .int .u64
abbrev T51 : Ty := .sl 62 (.pair (.int .i64) (.pair (.int .i64) (.pair (.int .i64) (.pair (.int .i64) (.int .i64)))))
abbrev T59 : Ty := .pair (.int .i64) (.pair (.int .i64) (.pair (.int .i64) (.int .i64)))
abbrev T60 : Ty := .pair (.int .i64) (.pair (.int .i64) (.pair (.int .i64) (.int .i64)))
abbrev T61 : Ty := .pair (.int .i64) (.pair (.int .i64) (.pair (.int .i64) (.pair (.int .i64) (.int .i64))))
abbrev T62 : Ty := .pair (.int .i64) (.pair (.int .i64) (.pair (.int .i64) (.pair (.int .i64) (.int .i64))))
abbrev T67 : Ty := .pair (.int .i64) (.bool)
abbrev T68 : Ty := .pair (.int .i64) (.bool)
abbrev T72 : Ty := .pair (.int .i64) (.int .i64)
abbrev T73 : Ty := .pair (.int .i64) (.int .i64)
abbrev T74 : Ty := .pair (.int .i64) (.pair (.int .i64) (.sl 73 (.pair (.int .i64) (.int .i64))))
abbrev T75 : Ty := .pair (.int .i64) (.pair (.int .i64) (.sl 73 (.pair (.int .i64) (.int .i64))))
abbrev T78 : Ty := .pair (.sl 5 (.int .u8)) (.int .i64)
abbrev T79 : Ty := .pair (.sl 5 (.int .u8)) (.int .i64)
abbrev T81 : Ty := .int .i64
abbrev T92 : Ty := .int .i64
abbrev T94 : Ty := .sl 3 (.int .i64)
abbrev T102 : Ty := .sl 44 (.sl 73 (.pair (.int .i64) (.int .i64)))
abbrev T111 : Ty := .sl 114 (.pair (.int .i64) (.pair (.int .i64) (.pair (.int .i64) (.bool))))
abbrev T113 : Ty := .pair (.int .i64) (.pair (.int .i64) (.pair (.int .i64) (.bool)))
abbrev T114 : Ty := .pair (.int .i64) (.pair (.int .i64) (.pair (.int .i64) (.bool)))
abbrev T119 : Ty := .sl 122 (.pair (.bool) (.pair (.bool) (.pair (.bool) (.pair (.bool) (.pair (.bool) (.pair (.bool) (.pair (.bool) (.pair (.bool) (.pair (.bool) (.pair (.bool) (.pair (.bool) (.pair (.bool) (.pair (.bool) (.pair (.bool) (.pair (.bool) (.pair (.bool) (.pair (.bool) (.pair (.bool) (.pair (.bool) (.pair (.bool) (.pair (.bool) (.pair (.bool) (.pair (.bool) (.bool))))))))))))))))))))))))
abbrev T121 : Ty := .pair (.bool) (.pair (.bool) (.pair (.bool) (.pair (.bool) (.pair (.bool) (.pair (.bool) (.pair (.bool) (.pair (.bool) (.pair (.bool) (.pair (.bool) (.pair (.bool) (.pair (.bool) (.pair (.bool) (.pair (.bool) (.pair (.bool) (.pair (.bool) (.pair (.bool) (.pair (.bool) (.pair (.bool) (.pair (.bool) (.pair (.bool) (.pair (.bool) (.pair (.bool) (.bool)))))))))))))))))))))))
abbrev T122 : Ty := .pair (.bool) (.pair (.bool) (.pair (.bool) (.pair (.bool) (.pair (.bool) (.pair (.bool) (.pair (.bool) (.pair (.bool) (.pair (.bool) (.pair (.bool) (.pair (.bool) (.pair (.bool) (.pair (.bool) (.pair (.bool) (.pair (.bool) (.pair (.bool) (.pair (.bool) (.pair (.bool) (.pair (.bool) (.pair (.bool) (.pair (.bool) (.pair (.bool) (.pair (.bool) (.bool)))))))))))))))))))))))
abbrev T125 : Ty := .int .u64
abbrev T126 : Ty := .int .u32
abbrev T127 : Ty := .sl 34 (.sl 60 (.pair (.int .i64) (.pair (.int .i64) (.pair (.int .i64) (.int .i64)))))
abbrev T129 : Ty := .int .i64
abbrev T130 : Ty := .int .i64
abbrev T132 : Ty := .sl 135 (.pair (.int .i64) (.pair (.int .i64) (.pair (.int .i64) (.bool))))
abbrev T134 : Ty := .pair (.int .i64) (.pair (.int .i64) (.pair (.int .i64) (.bool)))
abbrev T135 : Ty := .pair (.int .i64) (.pair (.int .i64) (.pair (.int .i64) (.bool)))
abbrev T146 : Ty := .int .u8
abbrev T147 : Ty := .int .u8
abbrev T150 : Ty := .int .i32
abbrev T151 : Ty := .int .i32
def tab : Tab where
  ty := [(2, T2), (3, T3), (4, T4), (5, T5), (6, T6), (7, T7), (8, T8), (9, T9), (10, T10), (11, T11), (12, T12), (13, T13), (14, T14), (21, T21), (22, T22), (24, T24), (26, T26), (27, T27), (31, T31), (32, T32), (34, T34), (35, T35), (36, T36), (44, T44), (50, T50), (51, T51), (59, T59), (60, T60), (61, T61), (62, T62), (67, T67), (68, T68), (72, T72), (73, T73), (74, T74), (75, T75), (78, T78), (79, T79), (81, T81), (92, T92), (94, T94), (102, T102), (111, T111), (113, T113), (114, T114), (119, T119), (121, T121), (122, T122), (125, T125), (126, T126), (127, T127), (129, T129), (130, T130), (132, T132), (134, T134), (135, T135), (146, T146), (147, T147), (150, T150), (151, T151)]
  byt := [(2, 8), (3, 8), (4, 1), (5, 1), (6, 1), (7, 24), (8, 24), (9, 16), (10, 16), (11, 16), (12, 8), (13, 24), (14, 24), (21, 4), (22, 24), (24, 24), (26, 24), (27, 8), (31, 64), (32, 64), (34, 24), (35, 96), (36, 96), (44, 24), (50, 8), (51, 24), (59, 32), (60, 32), (61, 40), (62, 40), (67, 16), (68, 16), (72, 16), (73, 16), (74, 40), (75, 40), (78, 32), (79, 32), (81, 8), (92, 8), (94, 24), (102, 24), (111, 24), (113, 32), (114, 32), (119, 24), (121, 24), (122, 24), (125, 8), (126, 4), (127, 24), (129, 8), (130, 8), (132, 24), (134, 32), (135, 32), (146, 1), (147, 1), (150, 4), (151, 4)]
  agg := [(7, ()), (8, ()), (13, ()), (14, ()), (31, ()), (32, ()), (35, ()), (36, ()), (59, ()), (60, ()), (61, ()), (62, ()), (67, ()), (68, ()), (72, ()), (73, ()), (74, ()), (75, ()), (78, ()), (79, ()), (81, ()), (92, ()), (113, ()), (114, ()), (121, ()), (122, ()), (129, ()), (130, ()), (134, ()), (135, ())]
  elem := [(22, 5), (24, 36), (26, 2), (34, 60), (44, 73), (51, 62), (94, 3), (102, 44), (111, 114), (119, 122), (127, 34), (132, 135)]
  ik := [(2, .i64), (3, .i64), (5, .u8), (6, .u8), (12, .u64), (21, .i32), (27, .i64), (50, .u64), (125, .u64), (126, .u32), (146, .u8), (147, .u8), (150, .i32), (151, .i32)]
  arr := [(92, (1, 3)), (121, (24, 4)), (122, (24, 4))]
  fld := [(7, [(0, 2), (1, 3), (2, 4), (3, 6)]), (8, [(0, 2), (1, 3), (2, 4), (3, 6)]), (13, [(0, 9), (1, 12)]), (14, [(0, 9), (1, 12)]), (31, [(0, 26), (1, 2), (2, 2), (3, 26)]), (32, [(0, 26), (1, 2), (2, 2), (3, 26)]), (35, [(0, 3), (1, 2), (2, 2), (3, 34), (4, 34), (5, 34)]), (36, [(0, 3), (1, 2), (2, 2), (3, 34), (4, 34), (5, 34)]), (59, [(0, 3), (1, 3), (2, 3), (3, 3)]), (60, [(0, 3), (1, 3), (2, 3), (3, 3)]), (61, [(0, 2), (1, 2), (2, 2), (3, 2), (4, 2)]), (62, [(0, 2), (1, 2), (2, 2), (3, 2), (4, 2)]), (67, [(0, 2), (1, 4)]), (68, [(0, 2), (1, 4)]), (72, [(0, 3), (1, 3)]), (73, [(0, 3), (1, 3)]), (74, [(0, 2), (1, 2), (2, 44)]), (75, [(0, 2), (1, 2), (2, 44)]), (78, [(0, 22), (1, 3)]), (79, [(0, 22), (1, 3)]), (81, [(0, 3)]), (113, [(0, 3), (1, 3), (2, 3), (3, 4)]), (114, [(0, 3), (1, 3), (2, 3), (3, 4)]), (129, [(0, 3)]), (130, [(0, 3)]), (134, [(0, 3), (1, 3), (2, 3), (3, 4)]), (135, [(0, 3), (1, 3), (2, 3), (3, 4)])]
  map := [(80, (81, 4)), (90, (92, 3)), (124, (122, 3))]
  eq := [(2, ()), (3, ()), (4, ()), (5, ()), (6, ()), (7, ()), (8, ()), (12, ()), (21, ()), (27, ()), (50, ()), (59, ()), (60, ()), (61, ()), (62, ()), (67, ()), (68, ()), (72, ()), (73, ()), (81, ()), (92, ()), (113, ()), (114, ()), (121, ()), (122, ()), (125, ()), (126, ()), (129, ()), (130, ()), (134, ()), (135, ()), (146, ()), (147, ()), (150, ()), (151, ())]
theorem tabOK : TabOK Try.prog tab := ⟨by kernel_rfl, by kernel_rfl, by kernel_rfl, by kernel_rfl, by kernel_rfl, by kernel_rfl, by kernel_rfl, by kernel_rfl, by kernel_rfl, by kernel_rfl, by kernel_rfl, by kernel_rfl⟩
theorem mix : Try.prog.follows .mixedOrders = true := by kernel_rfl
end Go.Proofs.Ytinopkpnlibopaa.Ab
