/-
  AG, part T: what the program says of its types, row by row, for simp. Conditions: none. Written by a program (gen_t.py).
-/
import Derived.Test.YtikhligjhmldhaaDoorProg
import Derived.Test.YtikhligjhmldhaaDoorAgQ
import Derived.KernelRfl
namespace Go.Proofs.YtikhligjhmldhaaDoor
open Go.AG
@[go_sem] theorem ti_2 : ti Tryd.prog 2 = ⟨true, .int .i64, 1, 8, [.int .i64 0]⟩ := by kernel_rfl
@[go_sem] theorem ti_3 : ti Tryd.prog 3 = ⟨true, .int .i64, 1, 8, [.int .i64 0]⟩ := by kernel_rfl
@[go_sem] theorem ti_4 : ti Tryd.prog 4 = ⟨true, .bool, 1, 1, [.bool false]⟩ := by kernel_rfl
@[go_sem] theorem ti_5 : ti Tryd.prog 5 = ⟨true, .int .u8, 1, 1, [.int .u8 0]⟩ := by kernel_rfl
@[go_sem] theorem ti_6 : ti Tryd.prog 6 = ⟨true, .int .u8, 1, 1, [.int .u8 0]⟩ := by kernel_rfl
@[go_sem] theorem ti_7 : ti Tryd.prog 7 = ⟨true, .struct [(0, 2), (1, 3), (2, 4), (3, 6)], 4, 24, [.int .i64 0, .int .i64 0, .bool false, .int .u8 0]⟩ := by kernel_rfl
@[go_sem] theorem ti_8 : ti Tryd.prog 8 = ⟨true, .struct [(0, 2), (1, 3), (2, 4), (3, 6)], 4, 24, [.int .i64 0, .int .i64 0, .bool false, .int .u8 0]⟩ := by kernel_rfl
@[go_sem] theorem ti_9 : ti Tryd.prog 9 = ⟨true, .string, 1, 16, [.string ⟨#[]⟩]⟩ := by kernel_rfl
@[go_sem] theorem ti_10 : ti Tryd.prog 10 = ⟨true, .string, 1, 16, [.string ⟨#[]⟩]⟩ := by kernel_rfl
@[go_sem] theorem ti_11 : ti Tryd.prog 11 = ⟨true, .string, 1, 16, [.string ⟨#[]⟩]⟩ := by kernel_rfl
@[go_sem] theorem ti_12 : ti Tryd.prog 12 = ⟨true, .int .u64, 1, 8, [.int .u64 0]⟩ := by kernel_rfl
@[go_sem] theorem ti_13 : ti Tryd.prog 13 = ⟨true, .struct [(0, 9), (1, 12)], 2, 24, [.string ⟨#[]⟩, .int .u64 0]⟩ := by kernel_rfl
@[go_sem] theorem ti_14 : ti Tryd.prog 14 = ⟨true, .struct [(0, 9), (1, 12)], 2, 24, [.string ⟨#[]⟩, .int .u64 0]⟩ := by kernel_rfl
@[go_sem] theorem ti_15 : ti Tryd.prog 15 = ⟨true, .pointer 122, 1, 8, [.pointer none]⟩ := by kernel_rfl
@[go_sem] theorem ti_16 : ti Tryd.prog 16 = ⟨true, .pointer 125, 1, 8, [.pointer none]⟩ := by kernel_rfl
@[go_sem] theorem ti_17 : ti Tryd.prog 17 = ⟨true, .pointer 133, 1, 8, [.pointer none]⟩ := by kernel_rfl
@[go_sem] theorem ti_18 : ti Tryd.prog 18 = ⟨true, .struct [(0, 17)], 1, 8, [.pointer none]⟩ := by kernel_rfl
@[go_sem] theorem ti_19 : ti Tryd.prog 19 = ⟨true, .struct [(0, 17)], 1, 8, [.pointer none]⟩ := by kernel_rfl
@[go_sem] theorem ti_21 : ti Tryd.prog 21 = ⟨true, .int .i32, 1, 4, [.int .i32 0]⟩ := by kernel_rfl
@[go_sem] theorem ti_22 : ti Tryd.prog 22 = ⟨true, .slice 5, 1, 24, [.slice none 0 0]⟩ := by kernel_rfl
@[go_sem] theorem ti_24 : ti Tryd.prog 24 = ⟨true, .slice 36, 1, 24, [.slice none 0 0]⟩ := by kernel_rfl
@[go_sem] theorem ti_25 : ti Tryd.prog 25 = ⟨true, .struct [(0, 2), (1, 24)], 2, 32, [.int .i64 0, .slice none 0 0]⟩ := by kernel_rfl
@[go_sem] theorem ti_26 : ti Tryd.prog 26 = ⟨true, .struct [(0, 2), (1, 24)], 2, 32, [.int .i64 0, .slice none 0 0]⟩ := by kernel_rfl
@[go_sem] theorem ti_35 : ti Tryd.prog 35 = ⟨true, .struct [(0, 2), (1, 2), (2, 2)], 3, 24, [.int .i64 0, .int .i64 0, .int .i64 0]⟩ := by kernel_rfl
@[go_sem] theorem ti_36 : ti Tryd.prog 36 = ⟨true, .struct [(0, 2), (1, 2), (2, 2)], 3, 24, [.int .i64 0, .int .i64 0, .int .i64 0]⟩ := by kernel_rfl
@[go_sem] theorem ti_41 : ti Tryd.prog 41 = ⟨true, .pointer 60, 1, 8, [.pointer none]⟩ := by kernel_rfl
@[go_sem] theorem ti_45 : ti Tryd.prog 45 = ⟨true, .slice 2, 1, 24, [.slice none 0 0]⟩ := by kernel_rfl
@[go_sem] theorem ti_58 : ti Tryd.prog 58 = ⟨true, .int .u64, 1, 8, [.int .u64 0]⟩ := by kernel_rfl
@[go_sem] theorem ti_59 : ti Tryd.prog 59 = ⟨true, .struct [(0, 22), (1, 3), (2, 58)], 3, 40, [.slice none 0 0, .int .i64 0, .int .u64 0]⟩ := by kernel_rfl
@[go_sem] theorem ti_60 : ti Tryd.prog 60 = ⟨true, .struct [(0, 22), (1, 3), (2, 58)], 3, 40, [.slice none 0 0, .int .i64 0, .int .u64 0]⟩ := by kernel_rfl
@[go_sem] theorem ti_62 : ti Tryd.prog 62 = ⟨true, .slice 9, 1, 24, [.slice none 0 0]⟩ := by kernel_rfl
@[go_sem] theorem ti_70 : ti Tryd.prog 70 = ⟨true, .map 2 2, 1, 8, [.map none]⟩ := by kernel_rfl
@[go_sem] theorem ti_74 : ti Tryd.prog 74 = ⟨true, .int .u64, 1, 8, [.int .u64 0]⟩ := by kernel_rfl
@[go_sem] theorem ti_75 : ti Tryd.prog 75 = ⟨true, .slice 77, 1, 24, [.slice none 0 0]⟩ := by kernel_rfl
@[go_sem] theorem ti_76 : ti Tryd.prog 76 = ⟨true, .struct [(0, 3), (1, 3)], 2, 16, [.int .i64 0, .int .i64 0]⟩ := by kernel_rfl
@[go_sem] theorem ti_77 : ti Tryd.prog 77 = ⟨true, .struct [(0, 3), (1, 3)], 2, 16, [.int .i64 0, .int .i64 0]⟩ := by kernel_rfl
@[go_sem] theorem ti_88 : ti Tryd.prog 88 = ⟨true, .array 24 5, 24, 24, [.int .u8 0, .int .u8 0, .int .u8 0, .int .u8 0, .int .u8 0, .int .u8 0, .int .u8 0, .int .u8 0, .int .u8 0, .int .u8 0, .int .u8 0, .int .u8 0, .int .u8 0, .int .u8 0, .int .u8 0, .int .u8 0, .int .u8 0, .int .u8 0, .int .u8 0, .int .u8 0, .int .u8 0, .int .u8 0, .int .u8 0, .int .u8 0]⟩ := by kernel_rfl
@[go_sem] theorem ti_93 : ti Tryd.prog 93 = ⟨true, .int .i64, 1, 8, [.int .i64 0]⟩ := by kernel_rfl
@[go_sem] theorem ti_96 : ti Tryd.prog 96 = ⟨true, .pointer 111, 1, 8, [.pointer none]⟩ := by kernel_rfl
@[go_sem] theorem ti_102 : ti Tryd.prog 102 = ⟨true, .array 20 58, 20, 160, [.int .u64 0, .int .u64 0, .int .u64 0, .int .u64 0, .int .u64 0, .int .u64 0, .int .u64 0, .int .u64 0, .int .u64 0, .int .u64 0, .int .u64 0, .int .u64 0, .int .u64 0, .int .u64 0, .int .u64 0, .int .u64 0, .int .u64 0, .int .u64 0, .int .u64 0, .int .u64 0]⟩ := by kernel_rfl
@[go_sem] theorem ti_103 : ti Tryd.prog 103 = ⟨true, .int .u32, 1, 4, [.int .u32 0]⟩ := by kernel_rfl
@[go_sem] theorem ti_104 : ti Tryd.prog 104 = ⟨true, .array 65 5, 65, 65, [.int .u8 0, .int .u8 0, .int .u8 0, .int .u8 0, .int .u8 0, .int .u8 0, .int .u8 0, .int .u8 0, .int .u8 0, .int .u8 0, .int .u8 0, .int .u8 0, .int .u8 0, .int .u8 0, .int .u8 0, .int .u8 0, .int .u8 0, .int .u8 0, .int .u8 0, .int .u8 0, .int .u8 0, .int .u8 0, .int .u8 0, .int .u8 0, .int .u8 0, .int .u8 0, .int .u8 0, .int .u8 0, .int .u8 0, .int .u8 0, .int .u8 0, .int .u8 0, .int .u8 0, .int .u8 0, .int .u8 0, .int .u8 0, .int .u8 0, .int .u8 0, .int .u8 0, .int .u8 0, .int .u8 0, .int .u8 0, .int .u8 0, .int .u8 0, .int .u8 0, .int .u8 0, .int .u8 0, .int .u8 0, .int .u8 0, .int .u8 0, .int .u8 0, .int .u8 0, .int .u8 0, .int .u8 0, .int .u8 0, .int .u8 0, .int .u8 0, .int .u8 0, .int .u8 0, .int .u8 0, .int .u8 0, .int .u8 0, .int .u8 0, .int .u8 0, .int .u8 0]⟩ := by kernel_rfl
@[go_sem] theorem ti_110 : ti Tryd.prog 110 = ⟨true, .struct [(0, 9), (1, 9), (2, 79)], 3, 48, [.string ⟨#[]⟩, .string ⟨#[]⟩, .nilIface]⟩ := by kernel_rfl
@[go_sem] theorem ti_111 : ti Tryd.prog 111 = ⟨true, .struct [(0, 9), (1, 9), (2, 79)], 3, 48, [.string ⟨#[]⟩, .string ⟨#[]⟩, .nilIface]⟩ := by kernel_rfl
@[go_sem] theorem ti_114 : ti Tryd.prog 114 = ⟨true, .pointer 5, 1, 8, [.pointer none]⟩ := by kernel_rfl
@[go_sem] theorem ti_115 : ti Tryd.prog 115 = ⟨true, .pointer 117, 1, 8, [.pointer none]⟩ := by kernel_rfl
@[go_sem] theorem ti_116 : ti Tryd.prog 116 = ⟨true, .struct [(0, 9)], 1, 16, [.string ⟨#[]⟩]⟩ := by kernel_rfl
@[go_sem] theorem ti_117 : ti Tryd.prog 117 = ⟨true, .struct [(0, 9)], 1, 16, [.string ⟨#[]⟩]⟩ := by kernel_rfl
@[go_sem] theorem ti_118 : ti Tryd.prog 118 = ⟨true, .array 32 5, 32, 32, [.int .u8 0, .int .u8 0, .int .u8 0, .int .u8 0, .int .u8 0, .int .u8 0, .int .u8 0, .int .u8 0, .int .u8 0, .int .u8 0, .int .u8 0, .int .u8 0, .int .u8 0, .int .u8 0, .int .u8 0, .int .u8 0, .int .u8 0, .int .u8 0, .int .u8 0, .int .u8 0, .int .u8 0, .int .u8 0, .int .u8 0, .int .u8 0, .int .u8 0, .int .u8 0, .int .u8 0, .int .u8 0, .int .u8 0, .int .u8 0, .int .u8 0, .int .u8 0]⟩ := by kernel_rfl
@[go_sem] theorem ti_119 : ti Tryd.prog 119 = ⟨true, .array 64 5, 64, 64, [.int .u8 0, .int .u8 0, .int .u8 0, .int .u8 0, .int .u8 0, .int .u8 0, .int .u8 0, .int .u8 0, .int .u8 0, .int .u8 0, .int .u8 0, .int .u8 0, .int .u8 0, .int .u8 0, .int .u8 0, .int .u8 0, .int .u8 0, .int .u8 0, .int .u8 0, .int .u8 0, .int .u8 0, .int .u8 0, .int .u8 0, .int .u8 0, .int .u8 0, .int .u8 0, .int .u8 0, .int .u8 0, .int .u8 0, .int .u8 0, .int .u8 0, .int .u8 0, .int .u8 0, .int .u8 0, .int .u8 0, .int .u8 0, .int .u8 0, .int .u8 0, .int .u8 0, .int .u8 0, .int .u8 0, .int .u8 0, .int .u8 0, .int .u8 0, .int .u8 0, .int .u8 0, .int .u8 0, .int .u8 0, .int .u8 0, .int .u8 0, .int .u8 0, .int .u8 0, .int .u8 0, .int .u8 0, .int .u8 0, .int .u8 0, .int .u8 0, .int .u8 0, .int .u8 0, .int .u8 0, .int .u8 0, .int .u8 0, .int .u8 0, .int .u8 0]⟩ := by kernel_rfl
@[go_sem] theorem ti_121 : ti Tryd.prog 121 = ⟨true, .struct [(0, 17), (1, 17), (2, 17), (3, 9)], 4, 40, [.pointer none, .pointer none, .pointer none, .string ⟨#[]⟩]⟩ := by kernel_rfl
@[go_sem] theorem ti_122 : ti Tryd.prog 122 = ⟨true, .struct [(0, 17), (1, 17), (2, 17), (3, 9)], 4, 40, [.pointer none, .pointer none, .pointer none, .string ⟨#[]⟩]⟩ := by kernel_rfl
@[go_sem] theorem ti_123 : ti Tryd.prog 123 = ⟨true, .array 0 16, 0, 0, []⟩ := by kernel_rfl
@[go_sem] theorem ti_124 : ti Tryd.prog 124 = ⟨true, .struct [(0, 123)], 0, 0, []⟩ := by kernel_rfl
@[go_sem] theorem ti_125 : ti Tryd.prog 125 = ⟨true, .struct [(0, 123)], 0, 0, []⟩ := by kernel_rfl
@[go_sem] theorem ti_127 : ti Tryd.prog 127 = ⟨true, .int .u8, 1, 1, [.int .u8 0]⟩ := by kernel_rfl
@[go_sem] theorem ti_128 : ti Tryd.prog 128 = ⟨true, .int .u8, 1, 1, [.int .u8 0]⟩ := by kernel_rfl
@[go_sem] theorem ti_130 : ti Tryd.prog 130 = ⟨true, .int .i32, 1, 4, [.int .i32 0]⟩ := by kernel_rfl
@[go_sem] theorem ti_131 : ti Tryd.prog 131 = ⟨true, .int .i32, 1, 4, [.int .i32 0]⟩ := by kernel_rfl
@[go_sem] theorem ti_132 : ti Tryd.prog 132 = ⟨true, .struct [(0, 12), (1, 12), (2, 103), (3, 127), (4, 5), (5, 5), (6, 128), (7, 129), (8, 114), (9, 130), (10, 131)], 11, 48, [.int .u64 0, .int .u64 0, .int .u32 0, .int .u8 0, .int .u8 0, .int .u8 0, .int .u8 0, .nilFunc, .pointer none, .int .i32 0, .int .i32 0]⟩ := by kernel_rfl
@[go_sem] theorem ti_133 : ti Tryd.prog 133 = ⟨true, .struct [(0, 12), (1, 12), (2, 103), (3, 127), (4, 5), (5, 5), (6, 128), (7, 129), (8, 114), (9, 130), (10, 131)], 11, 48, [.int .u64 0, .int .u64 0, .int .u32 0, .int .u8 0, .int .u8 0, .int .u8 0, .int .u8 0, .nilFunc, .pointer none, .int .i32 0, .int .i32 0]⟩ := by kernel_rfl
@[go_sem] theorem zo_2 : zeroOf Tryd.prog 2 = some (.int .i64 0) := by kernel_rfl
@[go_sem] theorem zo_3 : zeroOf Tryd.prog 3 = some (.int .i64 0) := by kernel_rfl
@[go_sem] theorem zo_4 : zeroOf Tryd.prog 4 = some (.bool false) := by kernel_rfl
@[go_sem] theorem zo_5 : zeroOf Tryd.prog 5 = some (.int .u8 0) := by kernel_rfl
@[go_sem] theorem zo_6 : zeroOf Tryd.prog 6 = some (.int .u8 0) := by kernel_rfl
@[go_sem] theorem zo_12 : zeroOf Tryd.prog 12 = some (.int .u64 0) := by kernel_rfl
@[go_sem] theorem zo_21 : zeroOf Tryd.prog 21 = some (.int .i32 0) := by kernel_rfl
@[go_sem] theorem zo_58 : zeroOf Tryd.prog 58 = some (.int .u64 0) := by kernel_rfl
@[go_sem] theorem zo_74 : zeroOf Tryd.prog 74 = some (.int .u64 0) := by kernel_rfl
@[go_sem] theorem zo_93 : zeroOf Tryd.prog 93 = some (.int .i64 0) := by kernel_rfl
@[go_sem] theorem zo_103 : zeroOf Tryd.prog 103 = some (.int .u32 0) := by kernel_rfl
@[go_sem] theorem zo_127 : zeroOf Tryd.prog 127 = some (.int .u8 0) := by kernel_rfl
@[go_sem] theorem zo_128 : zeroOf Tryd.prog 128 = some (.int .u8 0) := by kernel_rfl
@[go_sem] theorem zo_130 : zeroOf Tryd.prog 130 = some (.int .i32 0) := by kernel_rfl
@[go_sem] theorem zo_131 : zeroOf Tryd.prog 131 = some (.int .i32 0) := by kernel_rfl
@[go_sem] theorem eqi_35 : eqInfo Tryd.prog 35 = some [(0, 2), (1, 2), (2, 2)] := by kernel_rfl
@[go_sem] theorem eqi_36 : eqInfo Tryd.prog 36 = some [(0, 2), (1, 2), (2, 2)] := by kernel_rfl
theorem mixed : Tryd.prog.follows .mixedOrders = true := by kernel_rfl
end Go.Proofs.YtikhligjhmldhaaDoor
