import Derived.Test.YthmicjldfdadjaaPbB
import Derived.Test.YthmicjldfdadjaaChecked
import Derived.KernelRfl
/- The types of the translation as the evaluator asks of them. -/
namespace Go.Proofs.Ythmicjldfdadjaa.Ab
abbrev T2 : Ty := .int .i64
abbrev T3 : Ty := .int .i64
abbrev T4 : Ty := .bool
abbrev T5 : Ty := .int .u8
abbrev T6 : Ty := .int .u8
abbrev T7 : Ty := .pair (.int .i64) (.pair (.int .i64) (.pair (.bool) (.int .u8)))
abbrev T8 : Ty := .pair (.int .i64) (.pair (.int .i64) (.pair (.bool) (.int .u8)))
abbrev T9 : Ty := .str
abbrev T10 : Ty := .str
abbrev T11 : Ty := .str
abbrev T12 : Ty := .int .u64
abbrev T13 : Ty := .pair (.str) (.int .u64)
abbrev T14 : Ty := .pair (.str) (.int .u64)
abbrev T21 : Ty := .int .i32
abbrev T22 : Ty := .sl 42 (.pair (.int .i64) (.pair (.int .i64) (.pair (.int .i64) (.int .i64))))
abbrev T23 : Ty := .pair (.int .i64) (.pair (.int .i64) (.pair (.int .i64) (.pair (.sl 42 (.pair (.int .i64) (.pair (.int .i64) (.pair (.int .i64) (.int .i64))))) (.pair (.sl 42 (.pair (.int .i64) (.pair (.int .i64) (.pair (.int .i64) (.int .i64))))) (.sl 42 (.pair (.int .i64) (.pair (.int .i64) (.pair (.int .i64) (.int .i64)))))))))
abbrev T24 : Ty := .pair (.int .i64) (.pair (.int .i64) (.pair (.int .i64) (.pair (.sl 42 (.pair (.int .i64) (.pair (.int .i64) (.pair (.int .i64) (.int .i64))))) (.pair (.sl 42 (.pair (.int .i64) (.pair (.int .i64) (.pair (.int .i64) (.int .i64))))) (.sl 42 (.pair (.int .i64) (.pair (.int .i64) (.pair (.int .i64) (.int .i64)))))))))
abbrev T25 : Ty := .sl 5 (.int .u8)
abbrev T32 : Ty := .sl 24 (.pair (.int .i64) (.pair (.int .i64) (.pair (.int .i64) (.pair (.sl 42 (.pair (.int .i64) (.pair (.int .i64) (.pair (.int .i64) (.int .i64))))) (.pair (.sl 42 (.pair (.int .i64) (.pair (.int .i64) (.pair (.int .i64) (.int .i64))))) (.sl 42 (.pair (.int .i64) (.pair (.int .i64) (.pair (.int .i64) (.int .i64))))))))))
abbrev T33 : Ty := .sl 39 (.pair (.int .i64) (.int .i64))
abbrev T36 : Ty := .int .i64
abbrev T38 : Ty := .pair (.int .i64) (.int .i64)
abbrev T39 : Ty := .pair (.int .i64) (.int .i64)
abbrev T41 : Ty := .pair (.int .i64) (.pair (.int .i64) (.pair (.int .i64) (.int .i64)))
abbrev T42 : Ty := .pair (.int .i64) (.pair (.int .i64) (.pair (.int .i64) (.int .i64)))
abbrev T43 : Ty := .sl 36 (.int .i64)
abbrev T52 : Ty := .sl 22 (.sl 42 (.pair (.int .i64) (.pair (.int .i64) (.pair (.int .i64) (.int .i64)))))
abbrev T53 : Ty := .sl 2 (.int .i64)
abbrev T54 : Ty := .pair (.sl 5 (.int .u8)) (.int .i64)
abbrev T55 : Ty := .pair (.sl 5 (.int .u8)) (.int .i64)
abbrev T59 : Ty := .pair (.int .i64) (.pair (.int .i64) (.sl 39 (.pair (.int .i64) (.int .i64))))
abbrev T60 : Ty := .pair (.int .i64) (.pair (.int .i64) (.sl 39 (.pair (.int .i64) (.int .i64))))
abbrev T66 : Ty := .pair (.int .i64) (.pair (.int .i64) (.pair (.int .i64) (.pair (.int .i64) (.pair (.int .i64) (.pair (.int .i64) (.pair (.int .i64) (.int .i64)))))))
abbrev T67 : Ty := .sl 97 (.pair (.int .i64) (.pair (.int .i64) (.int .i64)))
abbrev T68 : Ty := .pair (.int .i64) (.pair (.pair (.int .i64) (.pair (.int .i64) (.pair (.int .i64) (.pair (.int .i64) (.pair (.int .i64) (.pair (.int .i64) (.pair (.int .i64) (.int .i64)))))))) (.pair (.sl 97 (.pair (.int .i64) (.pair (.int .i64) (.int .i64)))) (.bool)))
abbrev T69 : Ty := .pair (.int .i64) (.pair (.pair (.int .i64) (.pair (.int .i64) (.pair (.int .i64) (.pair (.int .i64) (.pair (.int .i64) (.pair (.int .i64) (.pair (.int .i64) (.int .i64)))))))) (.pair (.sl 97 (.pair (.int .i64) (.pair (.int .i64) (.int .i64)))) (.bool)))
abbrev T75 : Ty := .int .i64
abbrev T82 : Ty := .sl 3 (.int .i64)
abbrev T86 : Ty := .sl 33 (.sl 39 (.pair (.int .i64) (.int .i64)))
abbrev T89 : Ty := .sl 92 (.pair (.bool) (.pair (.bool) (.pair (.bool) (.pair (.bool) (.pair (.bool) (.pair (.bool) (.pair (.bool) (.pair (.bool) (.pair (.bool) (.pair (.bool) (.pair (.bool) (.pair (.bool) (.pair (.bool) (.pair (.bool) (.pair (.bool) (.pair (.bool) (.pair (.bool) (.pair (.bool) (.pair (.bool) (.pair (.bool) (.pair (.bool) (.pair (.bool) (.pair (.bool) (.bool))))))))))))))))))))))))
abbrev T91 : Ty := .pair (.bool) (.pair (.bool) (.pair (.bool) (.pair (.bool) (.pair (.bool) (.pair (.bool) (.pair (.bool) (.pair (.bool) (.pair (.bool) (.pair (.bool) (.pair (.bool) (.pair (.bool) (.pair (.bool) (.pair (.bool) (.pair (.bool) (.pair (.bool) (.pair (.bool) (.pair (.bool) (.pair (.bool) (.pair (.bool) (.pair (.bool) (.pair (.bool) (.pair (.bool) (.bool)))))))))))))))))))))))
abbrev T92 : Ty := .pair (.bool) (.pair (.bool) (.pair (.bool) (.pair (.bool) (.pair (.bool) (.pair (.bool) (.pair (.bool) (.pair (.bool) (.pair (.bool) (.pair (.bool) (.pair (.bool) (.pair (.bool) (.pair (.bool) (.pair (.bool) (.pair (.bool) (.pair (.bool) (.pair (.bool) (.pair (.bool) (.pair (.bool) (.pair (.bool) (.pair (.bool) (.pair (.bool) (.pair (.bool) (.bool)))))))))))))))))))))))
abbrev T96 : Ty := .pair (.int .i64) (.pair (.int .i64) (.int .i64))
abbrev T97 : Ty := .pair (.int .i64) (.pair (.int .i64) (.int .i64))
abbrev T102 : Ty := .sl 105 (.pair (.int .i64) (.pair (.int .i64) (.pair (.int .i64) (.bool))))
abbrev T104 : Ty := .pair (.int .i64) (.pair (.int .i64) (.pair (.int .i64) (.bool)))
abbrev T105 : Ty := .pair (.int .i64) (.pair (.int .i64) (.pair (.int .i64) (.bool)))
abbrev T108 : Ty := .sl 111 (.pair (.int .i64) (.pair (.int .i64) (.pair (.int .i64) (.bool))))
abbrev T110 : Ty := .pair (.int .i64) (.pair (.int .i64) (.pair (.int .i64) (.bool)))
abbrev T111 : Ty := .pair (.int .i64) (.pair (.int .i64) (.pair (.int .i64) (.bool)))
abbrev T114 : Ty := .int .i64
abbrev T115 : Ty := .int .i64
abbrev T116 : Ty := .int .u64
abbrev T122 : Ty := .int .u64
abbrev T123 : Ty := .int .u32
abbrev T131 : Ty := .int .u8
abbrev T132 : Ty := .int .u8
abbrev T135 : Ty := .int .i32
abbrev T136 : Ty := .int .i32
def tab : Tab where
  ty := [(2, T2), (3, T3), (4, T4), (5, T5), (6, T6), (7, T7), (8, T8), (9, T9), (10, T10), (11, T11), (12, T12), (13, T13), (14, T14), (21, T21), (22, T22), (23, T23), (24, T24), (25, T25), (32, T32), (33, T33), (36, T36), (38, T38), (39, T39), (41, T41), (42, T42), (43, T43), (52, T52), (53, T53), (54, T54), (55, T55), (59, T59), (60, T60), (66, T66), (67, T67), (68, T68), (69, T69), (75, T75), (82, T82), (86, T86), (89, T89), (91, T91), (92, T92), (96, T96), (97, T97), (102, T102), (104, T104), (105, T105), (108, T108), (110, T110), (111, T111), (114, T114), (115, T115), (116, T116), (122, T122), (123, T123), (131, T131), (132, T132), (135, T135), (136, T136)]
  byt := [(2, 8), (3, 8), (4, 1), (5, 1), (6, 1), (7, 24), (8, 24), (9, 16), (10, 16), (11, 16), (12, 8), (13, 24), (14, 24), (21, 4), (22, 24), (23, 96), (24, 96), (25, 24), (32, 24), (33, 24), (36, 8), (38, 16), (39, 16), (41, 32), (42, 32), (43, 24), (52, 24), (53, 24), (54, 32), (55, 32), (59, 40), (60, 40), (66, 64), (67, 24), (68, 104), (69, 104), (75, 8), (82, 24), (86, 24), (89, 24), (91, 24), (92, 24), (96, 24), (97, 24), (102, 24), (104, 32), (105, 32), (108, 24), (110, 32), (111, 32), (114, 8), (115, 8), (116, 8), (122, 8), (123, 4), (131, 1), (132, 1), (135, 4), (136, 4)]
  agg := [(7, ()), (8, ()), (13, ()), (14, ()), (23, ()), (24, ()), (38, ()), (39, ()), (41, ()), (42, ()), (54, ()), (55, ()), (59, ()), (60, ()), (66, ()), (68, ()), (69, ()), (75, ()), (91, ()), (92, ()), (96, ()), (97, ()), (104, ()), (105, ()), (110, ()), (111, ()), (114, ()), (115, ())]
  elem := [(22, 42), (25, 5), (32, 24), (33, 39), (43, 36), (52, 22), (53, 2), (67, 97), (82, 3), (86, 33), (89, 92), (102, 105), (108, 111)]
  ik := [(2, .i64), (3, .i64), (5, .u8), (6, .u8), (12, .u64), (21, .i32), (36, .i64), (116, .u64), (122, .u64), (123, .u32), (131, .u8), (132, .u8), (135, .i32), (136, .i32)]
  arr := [(66, (8, 2)), (75, (1, 3)), (91, (24, 4)), (92, (24, 4))]
  fld := [(7, [(0, 2), (1, 3), (2, 4), (3, 6)]), (8, [(0, 2), (1, 3), (2, 4), (3, 6)]), (13, [(0, 9), (1, 12)]), (14, [(0, 9), (1, 12)]), (23, [(0, 3), (1, 2), (2, 2), (3, 22), (4, 22), (5, 22)]), (24, [(0, 3), (1, 2), (2, 2), (3, 22), (4, 22), (5, 22)]), (38, [(0, 3), (1, 3)]), (39, [(0, 3), (1, 3)]), (41, [(0, 3), (1, 3), (2, 3), (3, 3)]), (42, [(0, 3), (1, 3), (2, 3), (3, 3)]), (54, [(0, 25), (1, 3)]), (55, [(0, 25), (1, 3)]), (59, [(0, 2), (1, 2), (2, 33)]), (60, [(0, 2), (1, 2), (2, 33)]), (68, [(0, 3), (1, 66), (9, 67), (10, 4)]), (69, [(0, 3), (1, 66), (9, 67), (10, 4)]), (96, [(0, 3), (1, 3), (2, 3)]), (97, [(0, 3), (1, 3), (2, 3)]), (104, [(0, 3), (1, 3), (2, 3), (3, 4)]), (105, [(0, 3), (1, 3), (2, 3), (3, 4)]), (110, [(0, 3), (1, 3), (2, 3), (3, 4)]), (111, [(0, 3), (1, 3), (2, 3), (3, 4)]), (114, [(0, 3)]), (115, [(0, 3)])]
  map := [(73, (75, 3)), (101, (92, 3))]
  eq := [(2, ()), (3, ()), (4, ()), (5, ()), (6, ()), (7, ()), (8, ()), (12, ()), (21, ()), (36, ()), (38, ()), (39, ()), (41, ()), (42, ()), (66, ()), (75, ()), (91, ()), (92, ()), (96, ()), (97, ()), (104, ()), (105, ()), (110, ()), (111, ()), (114, ()), (115, ()), (116, ()), (122, ()), (123, ()), (131, ()), (132, ()), (135, ()), (136, ())]
theorem tabOK : TabOK Try.prog tab := ⟨by kernel_rfl, by kernel_rfl, by kernel_rfl, by kernel_rfl, by kernel_rfl, by kernel_rfl, by kernel_rfl, by kernel_rfl, by kernel_rfl, by kernel_rfl, by kernel_rfl, by kernel_rfl⟩
theorem mix : Try.prog.follows .mixedOrders = true := by kernel_rfl
end Go.Proofs.Ythmicjldfdadjaa.Ab
