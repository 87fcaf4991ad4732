/-
  AG, part T: what the program says of its types, row by row, for simp. Conditions: none. Written by a program (gen_t.py).
-/
import Derived.Test.YtcmkkejcnomcdaaProg
import Derived.Test.YtcmkkejcnomcdaaAgQ
import Derived.KernelRfl
namespace Go.Proofs.Ytcmkkejcnomcdaa
open Go.AG
@[go_sem] theorem ti_2 : ti Try.prog 2 = ⟨true, .int .i64, 1, 8, [.int .i64 0]⟩ := by kernel_rfl
@[go_sem] theorem ti_3 : ti Try.prog 3 = ⟨true, .int .i64, 1, 8, [.int .i64 0]⟩ := by kernel_rfl
@[go_sem] theorem ti_4 : ti Try.prog 4 = ⟨true, .bool, 1, 1, [.bool false]⟩ := by kernel_rfl
@[go_sem] theorem ti_5 : ti Try.prog 5 = ⟨true, .int .u8, 1, 1, [.int .u8 0]⟩ := by kernel_rfl
@[go_sem] theorem ti_6 : ti Try.prog 6 = ⟨true, .int .u8, 1, 1, [.int .u8 0]⟩ := by kernel_rfl
@[go_sem] theorem ti_7 : ti Try.prog 7 = ⟨true, .struct [(0, 2), (1, 3), (2, 4), (3, 6)], 4, 24, [.int .i64 0, .int .i64 0, .bool false, .int .u8 0]⟩ := by kernel_rfl
@[go_sem] theorem ti_8 : ti Try.prog 8 = ⟨true, .struct [(0, 2), (1, 3), (2, 4), (3, 6)], 4, 24, [.int .i64 0, .int .i64 0, .bool false, .int .u8 0]⟩ := by kernel_rfl
@[go_sem] theorem ti_9 : ti Try.prog 9 = ⟨true, .string, 1, 16, [.string ⟨#[]⟩]⟩ := by kernel_rfl
@[go_sem] theorem ti_10 : ti Try.prog 10 = ⟨true, .string, 1, 16, [.string ⟨#[]⟩]⟩ := by kernel_rfl
@[go_sem] theorem ti_11 : ti Try.prog 11 = ⟨true, .string, 1, 16, [.string ⟨#[]⟩]⟩ := by kernel_rfl
@[go_sem] theorem ti_12 : ti Try.prog 12 = ⟨true, .int .u64, 1, 8, [.int .u64 0]⟩ := by kernel_rfl
@[go_sem] theorem ti_13 : ti Try.prog 13 = ⟨true, .struct [(0, 9), (1, 12)], 2, 24, [.string ⟨#[]⟩, .int .u64 0]⟩ := by kernel_rfl
@[go_sem] theorem ti_14 : ti Try.prog 14 = ⟨true, .struct [(0, 9), (1, 12)], 2, 24, [.string ⟨#[]⟩, .int .u64 0]⟩ := by kernel_rfl
@[go_sem] theorem ti_15 : ti Try.prog 15 = ⟨true, .pointer 138, 1, 8, [.pointer none]⟩ := by kernel_rfl
@[go_sem] theorem ti_16 : ti Try.prog 16 = ⟨true, .pointer 141, 1, 8, [.pointer none]⟩ := by kernel_rfl
@[go_sem] theorem ti_17 : ti Try.prog 17 = ⟨true, .pointer 151, 1, 8, [.pointer none]⟩ := by kernel_rfl
@[go_sem] theorem ti_18 : ti Try.prog 18 = ⟨true, .struct [(0, 17)], 1, 8, [.pointer none]⟩ := by kernel_rfl
@[go_sem] theorem ti_19 : ti Try.prog 19 = ⟨true, .struct [(0, 17)], 1, 8, [.pointer none]⟩ := by kernel_rfl
@[go_sem] theorem ti_21 : ti Try.prog 21 = ⟨true, .int .i32, 1, 4, [.int .i32 0]⟩ := by kernel_rfl
@[go_sem] theorem ti_22 : ti Try.prog 22 = ⟨true, .slice 5, 1, 24, [.slice none 0 0]⟩ := by kernel_rfl
@[go_sem] theorem ti_24 : ti Try.prog 24 = ⟨true, .slice 2, 1, 24, [.slice none 0 0]⟩ := by kernel_rfl
@[go_sem] theorem ti_25 : ti Try.prog 25 = ⟨true, .struct [(0, 2), (1, 2), (2, 2), (3, 2), (4, 24), (5, 24)], 6, 80, [.int .i64 0, .int .i64 0, .int .i64 0, .int .i64 0, .slice none 0 0, .slice none 0 0]⟩ := by kernel_rfl
@[go_sem] theorem ti_26 : ti Try.prog 26 = ⟨true, .struct [(0, 2), (1, 2), (2, 2), (3, 2), (4, 24), (5, 24)], 6, 80, [.int .i64 0, .int .i64 0, .int .i64 0, .int .i64 0, .slice none 0 0, .slice none 0 0]⟩ := by kernel_rfl
@[go_sem] theorem ti_38 : ti Try.prog 38 = ⟨true, .slice 51, 1, 24, [.slice none 0 0]⟩ := by kernel_rfl
@[go_sem] theorem ti_50 : ti Try.prog 50 = ⟨true, .struct [(0, 2), (1, 2)], 2, 16, [.int .i64 0, .int .i64 0]⟩ := by kernel_rfl
@[go_sem] theorem ti_51 : ti Try.prog 51 = ⟨true, .struct [(0, 2), (1, 2)], 2, 16, [.int .i64 0, .int .i64 0]⟩ := by kernel_rfl
@[go_sem] theorem ti_53 : ti Try.prog 53 = ⟨true, .slice 118, 1, 24, [.slice none 0 0]⟩ := by kernel_rfl
@[go_sem] theorem ti_56 : ti Try.prog 56 = ⟨true, .slice 70, 1, 24, [.slice none 0 0]⟩ := by kernel_rfl
@[go_sem] theorem ti_69 : ti Try.prog 69 = ⟨true, .struct [(0, 2), (1, 2), (2, 2)], 3, 24, [.int .i64 0, .int .i64 0, .int .i64 0]⟩ := by kernel_rfl
@[go_sem] theorem ti_70 : ti Try.prog 70 = ⟨true, .struct [(0, 2), (1, 2), (2, 2)], 3, 24, [.int .i64 0, .int .i64 0, .int .i64 0]⟩ := by kernel_rfl
@[go_sem] theorem ti_73 : ti Try.prog 73 = ⟨true, .pointer 107, 1, 8, [.pointer none]⟩ := by kernel_rfl
@[go_sem] theorem ti_76 : ti Try.prog 76 = ⟨true, .pointer 26, 1, 8, [.pointer none]⟩ := by kernel_rfl
@[go_sem] theorem ti_105 : ti Try.prog 105 = ⟨true, .int .u64, 1, 8, [.int .u64 0]⟩ := by kernel_rfl
@[go_sem] theorem ti_106 : ti Try.prog 106 = ⟨true, .struct [(0, 22), (1, 3), (2, 105)], 3, 40, [.slice none 0 0, .int .i64 0, .int .u64 0]⟩ := by kernel_rfl
@[go_sem] theorem ti_107 : ti Try.prog 107 = ⟨true, .struct [(0, 22), (1, 3), (2, 105)], 3, 40, [.slice none 0 0, .int .i64 0, .int .u64 0]⟩ := by kernel_rfl
@[go_sem] theorem ti_108 : ti Try.prog 108 = ⟨true, .slice 24, 1, 24, [.slice none 0 0]⟩ := by kernel_rfl
@[go_sem] theorem ti_115 : ti Try.prog 115 = ⟨true, .pointer 51, 1, 8, [.pointer none]⟩ := by kernel_rfl
@[go_sem] theorem ti_117 : ti Try.prog 117 = ⟨true, .struct [(0, 9), (1, 2), (2, 2)], 3, 32, [.string ⟨#[]⟩, .int .i64 0, .int .i64 0]⟩ := by kernel_rfl
@[go_sem] theorem ti_118 : ti Try.prog 118 = ⟨true, .struct [(0, 9), (1, 2), (2, 2)], 3, 32, [.string ⟨#[]⟩, .int .i64 0, .int .i64 0]⟩ := by kernel_rfl
@[go_sem] theorem ti_121 : ti Try.prog 121 = ⟨true, .pointer 118, 1, 8, [.pointer none]⟩ := by kernel_rfl
@[go_sem] theorem ti_122 : ti Try.prog 122 = ⟨true, .slice 9, 1, 24, [.slice none 0 0]⟩ := by kernel_rfl
@[go_sem] theorem ti_130 : ti Try.prog 130 = ⟨true, .pointer 70, 1, 8, [.pointer none]⟩ := by kernel_rfl
@[go_sem] theorem ti_132 : ti Try.prog 132 = ⟨true, .int .u64, 1, 8, [.int .u64 0]⟩ := by kernel_rfl
@[go_sem] theorem ti_137 : ti Try.prog 137 = ⟨true, .struct [(0, 17), (1, 17), (2, 17), (3, 9)], 4, 40, [.pointer none, .pointer none, .pointer none, .string ⟨#[]⟩]⟩ := by kernel_rfl
@[go_sem] theorem ti_138 : ti Try.prog 138 = ⟨true, .struct [(0, 17), (1, 17), (2, 17), (3, 9)], 4, 40, [.pointer none, .pointer none, .pointer none, .string ⟨#[]⟩]⟩ := by kernel_rfl
@[go_sem] theorem ti_139 : ti Try.prog 139 = ⟨true, .array 0 16, 0, 0, []⟩ := by kernel_rfl
@[go_sem] theorem ti_140 : ti Try.prog 140 = ⟨true, .struct [(0, 139)], 0, 0, []⟩ := by kernel_rfl
@[go_sem] theorem ti_141 : ti Try.prog 141 = ⟨true, .struct [(0, 139)], 0, 0, []⟩ := by kernel_rfl
@[go_sem] theorem ti_143 : ti Try.prog 143 = ⟨true, .int .u32, 1, 4, [.int .u32 0]⟩ := by kernel_rfl
@[go_sem] theorem ti_144 : ti Try.prog 144 = ⟨true, .int .u8, 1, 1, [.int .u8 0]⟩ := by kernel_rfl
@[go_sem] theorem ti_145 : ti Try.prog 145 = ⟨true, .int .u8, 1, 1, [.int .u8 0]⟩ := by kernel_rfl
@[go_sem] theorem ti_147 : ti Try.prog 147 = ⟨true, .pointer 5, 1, 8, [.pointer none]⟩ := by kernel_rfl
@[go_sem] theorem ti_148 : ti Try.prog 148 = ⟨true, .int .i32, 1, 4, [.int .i32 0]⟩ := by kernel_rfl
@[go_sem] theorem ti_149 : ti Try.prog 149 = ⟨true, .int .i32, 1, 4, [.int .i32 0]⟩ := by kernel_rfl
@[go_sem] theorem ti_150 : ti Try.prog 150 = ⟨true, .struct [(0, 12), (1, 12), (2, 143), (3, 144), (4, 5), (5, 5), (6, 145), (7, 146), (8, 147), (9, 148), (10, 149)], 11, 48, [.int .u64 0, .int .u64 0, .int .u32 0, .int .u8 0, .int .u8 0, .int .u8 0, .int .u8 0, .nilFunc, .pointer none, .int .i32 0, .int .i32 0]⟩ := by kernel_rfl
@[go_sem] theorem ti_151 : ti Try.prog 151 = ⟨true, .struct [(0, 12), (1, 12), (2, 143), (3, 144), (4, 5), (5, 5), (6, 145), (7, 146), (8, 147), (9, 148), (10, 149)], 11, 48, [.int .u64 0, .int .u64 0, .int .u32 0, .int .u8 0, .int .u8 0, .int .u8 0, .int .u8 0, .nilFunc, .pointer none, .int .i32 0, .int .i32 0]⟩ := by kernel_rfl
@[go_sem] theorem eqi_50 : eqInfo Try.prog 50 = some [(0, 2), (1, 2)] := by kernel_rfl
@[go_sem] theorem eqi_51 : eqInfo Try.prog 51 = some [(0, 2), (1, 2)] := by kernel_rfl
@[go_sem] theorem eqi_69 : eqInfo Try.prog 69 = some [(0, 2), (1, 2), (2, 2)] := by kernel_rfl
@[go_sem] theorem eqi_70 : eqInfo Try.prog 70 = some [(0, 2), (1, 2), (2, 2)] := by kernel_rfl
@[go_sem] theorem eqi_117 : eqInfo Try.prog 117 = some [(0, 9), (1, 2), (2, 2)] := by kernel_rfl
@[go_sem] theorem eqi_118 : eqInfo Try.prog 118 = some [(0, 9), (1, 2), (2, 2)] := by kernel_rfl
theorem mixed : Try.prog.follows .mixedOrders = true := by kernel_rfl
end Go.Proofs.Ytcmkkejcnomcdaa
