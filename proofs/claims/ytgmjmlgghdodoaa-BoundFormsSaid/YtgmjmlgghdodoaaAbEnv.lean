import Derived.Test.YtgmjmlgghdodoaaAbTab
import Derived.Test.YtgmjmlgghdodoaaChecked
import Derived.KernelRfl
/- The types of the translation as the evaluator asks of them. -/
namespace Go.Proofs.Ytgmjmlgghdodoaa.Ab
abbrev T2 : Ty := .int .i64
abbrev T3 : Ty := .int .i64
abbrev T4 : Ty := .bool
abbrev T5 : Ty := .int .u8
abbrev T6 : Ty := .int .u8
abbrev T7 : Ty := .pair (.int .i64) (.pair (.int .i64) (.pair (.bool) (.int .u8)))
abbrev T8 : Ty := .pair (.int .i64) (.pair (.int .i64) (.pair (.bool) (.int .u8)))
abbrev T9 : Ty := .str
abbrev T10 : Ty := .str
abbrev T11 : Ty := .str
abbrev T12 : Ty := .int .u64
abbrev T13 : Ty := .pair (.str) (.int .u64)
abbrev T14 : Ty := .pair (.str) (.int .u64)
abbrev T21 : Ty := .int .i32
abbrev T22 : Ty := .sl 5 (.int .u8)
abbrev T24 : Ty := .sl 36 (.pair (.int .i64) (.pair (.int .i64) (.pair (.int .i64) (.pair (.sl 48 (.pair (.int .i64) (.pair (.int .i64) (.pair (.int .i64) (.int .i64))))) (.pair (.sl 48 (.pair (.int .i64) (.pair (.int .i64) (.pair (.int .i64) (.int .i64))))) (.sl 48 (.pair (.int .i64) (.pair (.int .i64) (.pair (.int .i64) (.int .i64))))))))))
abbrev T26 : Ty := .sl 2 (.int .i64)
abbrev T27 : Ty := .int .i64
abbrev T31 : Ty := .pair (.sl 2 (.int .i64)) (.pair (.int .i64) (.pair (.int .i64) (.sl 2 (.int .i64))))
abbrev T32 : Ty := .pair (.sl 2 (.int .i64)) (.pair (.int .i64) (.pair (.int .i64) (.sl 2 (.int .i64))))
abbrev T34 : Ty := .sl 48 (.pair (.int .i64) (.pair (.int .i64) (.pair (.int .i64) (.int .i64))))
abbrev T35 : Ty := .pair (.int .i64) (.pair (.int .i64) (.pair (.int .i64) (.pair (.sl 48 (.pair (.int .i64) (.pair (.int .i64) (.pair (.int .i64) (.int .i64))))) (.pair (.sl 48 (.pair (.int .i64) (.pair (.int .i64) (.pair (.int .i64) (.int .i64))))) (.sl 48 (.pair (.int .i64) (.pair (.int .i64) (.pair (.int .i64) (.int .i64)))))))))
abbrev T36 : Ty := .pair (.int .i64) (.pair (.int .i64) (.pair (.int .i64) (.pair (.sl 48 (.pair (.int .i64) (.pair (.int .i64) (.pair (.int .i64) (.int .i64))))) (.pair (.sl 48 (.pair (.int .i64) (.pair (.int .i64) (.pair (.int .i64) (.int .i64))))) (.sl 48 (.pair (.int .i64) (.pair (.int .i64) (.pair (.int .i64) (.int .i64)))))))))
abbrev T44 : Ty := .sl 61 (.pair (.int .i64) (.int .i64))
abbrev T47 : Ty := .pair (.int .i64) (.pair (.int .i64) (.pair (.int .i64) (.int .i64)))
abbrev T48 : Ty := .pair (.int .i64) (.pair (.int .i64) (.pair (.int .i64) (.int .i64)))
abbrev T55 : Ty := .pair (.int .i64) (.bool)
abbrev T56 : Ty := .pair (.int .i64) (.bool)
abbrev T60 : Ty := .pair (.int .i64) (.int .i64)
abbrev T61 : Ty := .pair (.int .i64) (.int .i64)
abbrev T62 : Ty := .pair (.int .i64) (.pair (.int .i64) (.sl 61 (.pair (.int .i64) (.int .i64))))
abbrev T63 : Ty := .pair (.int .i64) (.pair (.int .i64) (.sl 61 (.pair (.int .i64) (.int .i64))))
abbrev T66 : Ty := .pair (.sl 5 (.int .u8)) (.int .i64)
abbrev T67 : Ty := .pair (.sl 5 (.int .u8)) (.int .i64)
abbrev T73 : Ty := .int .i64
abbrev T75 : Ty := .sl 3 (.int .i64)
abbrev T81 : Ty := .sl 44 (.sl 61 (.pair (.int .i64) (.int .i64)))
abbrev T83 : Ty := .int .u64
abbrev T93 : Ty := .sl 96 (.pair (.int .i64) (.pair (.int .i64) (.pair (.int .i64) (.bool))))
abbrev T95 : Ty := .pair (.int .i64) (.pair (.int .i64) (.pair (.int .i64) (.bool)))
abbrev T96 : Ty := .pair (.int .i64) (.pair (.int .i64) (.pair (.int .i64) (.bool)))
abbrev T101 : Ty := .sl 104 (.pair (.bool) (.pair (.bool) (.pair (.bool) (.pair (.bool) (.pair (.bool) (.pair (.bool) (.pair (.bool) (.pair (.bool) (.pair (.bool) (.pair (.bool) (.pair (.bool) (.pair (.bool) (.pair (.bool) (.pair (.bool) (.pair (.bool) (.pair (.bool) (.pair (.bool) (.pair (.bool) (.pair (.bool) (.pair (.bool) (.pair (.bool) (.pair (.bool) (.pair (.bool) (.bool))))))))))))))))))))))))
abbrev T103 : Ty := .pair (.bool) (.pair (.bool) (.pair (.bool) (.pair (.bool) (.pair (.bool) (.pair (.bool) (.pair (.bool) (.pair (.bool) (.pair (.bool) (.pair (.bool) (.pair (.bool) (.pair (.bool) (.pair (.bool) (.pair (.bool) (.pair (.bool) (.pair (.bool) (.pair (.bool) (.pair (.bool) (.pair (.bool) (.pair (.bool) (.pair (.bool) (.pair (.bool) (.pair (.bool) (.bool)))))))))))))))))))))))
abbrev T104 : Ty := .pair (.bool) (.pair (.bool) (.pair (.bool) (.pair (.bool) (.pair (.bool) (.pair (.bool) (.pair (.bool) (.pair (.bool) (.pair (.bool) (.pair (.bool) (.pair (.bool) (.pair (.bool) (.pair (.bool) (.pair (.bool) (.pair (.bool) (.pair (.bool) (.pair (.bool) (.pair (.bool) (.pair (.bool) (.pair (.bool) (.pair (.bool) (.pair (.bool) (.pair (.bool) (.bool)))))))))))))))))))))))
abbrev T107 : Ty := .int .u64
abbrev T108 : Ty := .int .u32
abbrev T109 : Ty := .sl 34 (.sl 48 (.pair (.int .i64) (.pair (.int .i64) (.pair (.int .i64) (.int .i64)))))
abbrev T111 : Ty := .int .i64
abbrev T112 : Ty := .int .i64
abbrev T114 : Ty := .sl 117 (.pair (.int .i64) (.pair (.int .i64) (.pair (.int .i64) (.bool))))
abbrev T116 : Ty := .pair (.int .i64) (.pair (.int .i64) (.pair (.int .i64) (.bool)))
abbrev T117 : Ty := .pair (.int .i64) (.pair (.int .i64) (.pair (.int .i64) (.bool)))
abbrev T127 : Ty := .int .u8
abbrev T128 : Ty := .int .u8
abbrev T131 : Ty := .int .i32
abbrev T132 : Ty := .int .i32
def tab : Tab where
  ty := [(2, T2), (3, T3), (4, T4), (5, T5), (6, T6), (7, T7), (8, T8), (9, T9), (10, T10), (11, T11), (12, T12), (13, T13), (14, T14), (21, T21), (22, T22), (24, T24), (26, T26), (27, T27), (31, T31), (32, T32), (34, T34), (35, T35), (36, T36), (44, T44), (47, T47), (48, T48), (55, T55), (56, T56), (60, T60), (61, T61), (62, T62), (63, T63), (66, T66), (67, T67), (73, T73), (75, T75), (81, T81), (83, T83), (93, T93), (95, T95), (96, T96), (101, T101), (103, T103), (104, T104), (107, T107), (108, T108), (109, T109), (111, T111), (112, T112), (114, T114), (116, T116), (117, T117), (127, T127), (128, T128), (131, T131), (132, T132)]
  byt := [(2, 8), (3, 8), (4, 1), (5, 1), (6, 1), (7, 24), (8, 24), (9, 16), (10, 16), (11, 16), (12, 8), (13, 24), (14, 24), (21, 4), (22, 24), (24, 24), (26, 24), (27, 8), (31, 64), (32, 64), (34, 24), (35, 96), (36, 96), (44, 24), (47, 32), (48, 32), (55, 16), (56, 16), (60, 16), (61, 16), (62, 40), (63, 40), (66, 32), (67, 32), (73, 8), (75, 24), (81, 24), (83, 8), (93, 24), (95, 32), (96, 32), (101, 24), (103, 24), (104, 24), (107, 8), (108, 4), (109, 24), (111, 8), (112, 8), (114, 24), (116, 32), (117, 32), (127, 1), (128, 1), (131, 4), (132, 4)]
  agg := [(7, ()), (8, ()), (13, ()), (14, ()), (31, ()), (32, ()), (35, ()), (36, ()), (47, ()), (48, ()), (55, ()), (56, ()), (60, ()), (61, ()), (62, ()), (63, ()), (66, ()), (67, ()), (73, ()), (95, ()), (96, ()), (103, ()), (104, ()), (111, ()), (112, ()), (116, ()), (117, ())]
  elem := [(22, 5), (24, 36), (26, 2), (34, 48), (44, 61), (75, 3), (81, 44), (93, 96), (101, 104), (109, 34), (114, 117)]
  ik := [(2, .i64), (3, .i64), (5, .u8), (6, .u8), (12, .u64), (21, .i32), (27, .i64), (83, .u64), (107, .u64), (108, .u32), (127, .u8), (128, .u8), (131, .i32), (132, .i32)]
  arr := [(73, (1, 3)), (103, (24, 4)), (104, (24, 4))]
  fld := [(7, [(0, 2), (1, 3), (2, 4), (3, 6)]), (8, [(0, 2), (1, 3), (2, 4), (3, 6)]), (13, [(0, 9), (1, 12)]), (14, [(0, 9), (1, 12)]), (31, [(0, 26), (1, 2), (2, 2), (3, 26)]), (32, [(0, 26), (1, 2), (2, 2), (3, 26)]), (35, [(0, 3), (1, 2), (2, 2), (3, 34), (4, 34), (5, 34)]), (36, [(0, 3), (1, 2), (2, 2), (3, 34), (4, 34), (5, 34)]), (47, [(0, 3), (1, 3), (2, 3), (3, 3)]), (48, [(0, 3), (1, 3), (2, 3), (3, 3)]), (55, [(0, 2), (1, 4)]), (56, [(0, 2), (1, 4)]), (60, [(0, 3), (1, 3)]), (61, [(0, 3), (1, 3)]), (62, [(0, 2), (1, 2), (2, 44)]), (63, [(0, 2), (1, 2), (2, 44)]), (66, [(0, 22), (1, 3)]), (67, [(0, 22), (1, 3)]), (95, [(0, 3), (1, 3), (2, 3), (3, 4)]), (96, [(0, 3), (1, 3), (2, 3), (3, 4)]), (111, [(0, 3)]), (112, [(0, 3)]), (116, [(0, 3), (1, 3), (2, 3), (3, 4)]), (117, [(0, 3), (1, 3), (2, 3), (3, 4)])]
  map := [(71, (73, 3)), (106, (104, 3))]
  eq := [(2, ()), (3, ()), (4, ()), (5, ()), (6, ()), (7, ()), (8, ()), (12, ()), (21, ()), (27, ()), (47, ()), (48, ()), (55, ()), (56, ()), (60, ()), (61, ()), (73, ()), (83, ()), (95, ()), (96, ()), (103, ()), (104, ()), (107, ()), (108, ()), (111, ()), (112, ()), (116, ()), (117, ()), (127, ()), (128, ()), (131, ()), (132, ())]
theorem tabOK : TabOK Try.prog tab := ⟨by kernel_rfl, by kernel_rfl, by kernel_rfl, by kernel_rfl, by kernel_rfl, by kernel_rfl, by kernel_rfl, by kernel_rfl, by kernel_rfl, by kernel_rfl, by kernel_rfl, by kernel_rfl⟩
theorem mix : Try.prog.follows .mixedOrders = true := by kernel_rfl
end Go.Proofs.Ytgmjmlgghdodoaa.Ab
