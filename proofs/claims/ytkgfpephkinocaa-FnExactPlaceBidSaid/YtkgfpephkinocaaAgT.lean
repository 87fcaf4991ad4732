/-
  AG, part T: what the program says of its types, row by row, for simp. Conditions: none. Written by a program (gen_t.py).
-/
import Derived.Test.YtkgfpephkinocaaProg
import Derived.Test.YtkgfpephkinocaaAgQ
import Derived.KernelRfl
namespace Go.Proofs.Ytkgfpephkinocaa
open Go.AG
@[go_sem] theorem ti_2 : ti Try.prog 2 = ⟨true, .int .i64, 1, 8, [.int .i64 0]⟩ := by kernel_rfl
@[go_sem] theorem ti_3 : ti Try.prog 3 = ⟨true, .int .i64, 1, 8, [.int .i64 0]⟩ := by kernel_rfl
@[go_sem] theorem ti_4 : ti Try.prog 4 = ⟨true, .bool, 1, 1, [.bool false]⟩ := by kernel_rfl
@[go_sem] theorem ti_5 : ti Try.prog 5 = ⟨true, .int .u8, 1, 1, [.int .u8 0]⟩ := by kernel_rfl
@[go_sem] theorem ti_6 : ti Try.prog 6 = ⟨true, .int .u8, 1, 1, [.int .u8 0]⟩ := by kernel_rfl
@[go_sem] theorem ti_7 : ti Try.prog 7 = ⟨true, .struct [(0, 2), (1, 3), (2, 4), (3, 6)], 4, 24, [.int .i64 0, .int .i64 0, .bool false, .int .u8 0]⟩ := by kernel_rfl
@[go_sem] theorem ti_8 : ti Try.prog 8 = ⟨true, .struct [(0, 2), (1, 3), (2, 4), (3, 6)], 4, 24, [.int .i64 0, .int .i64 0, .bool false, .int .u8 0]⟩ := by kernel_rfl
@[go_sem] theorem ti_9 : ti Try.prog 9 = ⟨true, .string, 1, 16, [.string ⟨#[]⟩]⟩ := by kernel_rfl
@[go_sem] theorem ti_10 : ti Try.prog 10 = ⟨true, .string, 1, 16, [.string ⟨#[]⟩]⟩ := by kernel_rfl
@[go_sem] theorem ti_11 : ti Try.prog 11 = ⟨true, .string, 1, 16, [.string ⟨#[]⟩]⟩ := by kernel_rfl
@[go_sem] theorem ti_12 : ti Try.prog 12 = ⟨true, .int .u64, 1, 8, [.int .u64 0]⟩ := by kernel_rfl
@[go_sem] theorem ti_13 : ti Try.prog 13 = ⟨true, .struct [(0, 9), (1, 12)], 2, 24, [.string ⟨#[]⟩, .int .u64 0]⟩ := by kernel_rfl
@[go_sem] theorem ti_14 : ti Try.prog 14 = ⟨true, .struct [(0, 9), (1, 12)], 2, 24, [.string ⟨#[]⟩, .int .u64 0]⟩ := by kernel_rfl
@[go_sem] theorem ti_15 : ti Try.prog 15 = ⟨true, .pointer 145, 1, 8, [.pointer none]⟩ := by kernel_rfl
@[go_sem] theorem ti_16 : ti Try.prog 16 = ⟨true, .pointer 148, 1, 8, [.pointer none]⟩ := by kernel_rfl
@[go_sem] theorem ti_17 : ti Try.prog 17 = ⟨true, .pointer 158, 1, 8, [.pointer none]⟩ := by kernel_rfl
@[go_sem] theorem ti_18 : ti Try.prog 18 = ⟨true, .struct [(0, 17)], 1, 8, [.pointer none]⟩ := by kernel_rfl
@[go_sem] theorem ti_19 : ti Try.prog 19 = ⟨true, .struct [(0, 17)], 1, 8, [.pointer none]⟩ := by kernel_rfl
@[go_sem] theorem ti_21 : ti Try.prog 21 = ⟨true, .int .i32, 1, 4, [.int .i32 0]⟩ := by kernel_rfl
@[go_sem] theorem ti_22 : ti Try.prog 22 = ⟨true, .slice 5, 1, 24, [.slice none 0 0]⟩ := by kernel_rfl
@[go_sem] theorem ti_24 : ti Try.prog 24 = ⟨true, .slice 2, 1, 24, [.slice none 0 0]⟩ := by kernel_rfl
@[go_sem] theorem ti_26 : ti Try.prog 26 = ⟨true, .slice 24, 1, 24, [.slice none 0 0]⟩ := by kernel_rfl
@[go_sem] theorem ti_39 : ti Try.prog 39 = ⟨true, .slice 4, 1, 24, [.slice none 0 0]⟩ := by kernel_rfl
@[go_sem] theorem ti_40 : ti Try.prog 40 = ⟨true, .slice 44, 1, 24, [.slice none 0 0]⟩ := by kernel_rfl
@[go_sem] theorem ti_41 : ti Try.prog 41 = ⟨true, .struct [(0, 2), (1, 24), (2, 40)], 3, 56, [.int .i64 0, .slice none 0 0, .slice none 0 0]⟩ := by kernel_rfl
@[go_sem] theorem ti_42 : ti Try.prog 42 = ⟨true, .struct [(0, 2), (1, 24), (2, 40)], 3, 56, [.int .i64 0, .slice none 0 0, .slice none 0 0]⟩ := by kernel_rfl
@[go_sem] theorem ti_43 : ti Try.prog 43 = ⟨true, .struct [(0, 2), (1, 2), (2, 2)], 3, 24, [.int .i64 0, .int .i64 0, .int .i64 0]⟩ := by kernel_rfl
@[go_sem] theorem ti_44 : ti Try.prog 44 = ⟨true, .struct [(0, 2), (1, 2), (2, 2)], 3, 24, [.int .i64 0, .int .i64 0, .int .i64 0]⟩ := by kernel_rfl
@[go_sem] theorem ti_46 : ti Try.prog 46 = ⟨true, .slice 52, 1, 24, [.slice none 0 0]⟩ := by kernel_rfl
@[go_sem] theorem ti_47 : ti Try.prog 47 = ⟨true, .struct [(0, 2), (1, 24), (2, 46)], 3, 56, [.int .i64 0, .slice none 0 0, .slice none 0 0]⟩ := by kernel_rfl
@[go_sem] theorem ti_48 : ti Try.prog 48 = ⟨true, .struct [(0, 2), (1, 24), (2, 46)], 3, 56, [.int .i64 0, .slice none 0 0, .slice none 0 0]⟩ := by kernel_rfl
@[go_sem] theorem ti_52 : ti Try.prog 52 = ⟨true, .struct [(0, 2), (1, 2), (2, 2)], 3, 24, [.int .i64 0, .int .i64 0, .int .i64 0]⟩ := by kernel_rfl
@[go_sem] theorem ti_57 : ti Try.prog 57 = ⟨true, .struct [(0, 2), (1, 2), (2, 24)], 3, 40, [.int .i64 0, .int .i64 0, .slice none 0 0]⟩ := by kernel_rfl
@[go_sem] theorem ti_58 : ti Try.prog 58 = ⟨true, .struct [(0, 2), (1, 2), (2, 24)], 3, 40, [.int .i64 0, .int .i64 0, .slice none 0 0]⟩ := by kernel_rfl
@[go_sem] theorem ti_62 : ti Try.prog 62 = ⟨true, .struct [(0, 2), (1, 2), (2, 24)], 3, 40, [.int .i64 0, .int .i64 0, .slice none 0 0]⟩ := by kernel_rfl
@[go_sem] theorem ti_80 : ti Try.prog 80 = ⟨true, .pointer 125, 1, 8, [.pointer none]⟩ := by kernel_rfl
@[go_sem] theorem ti_90 : ti Try.prog 90 = ⟨true, .pointer 48, 1, 8, [.pointer none]⟩ := by kernel_rfl
@[go_sem] theorem ti_92 : ti Try.prog 92 = ⟨true, .pointer 52, 1, 8, [.pointer none]⟩ := by kernel_rfl
@[go_sem] theorem ti_102 : ti Try.prog 102 = ⟨true, .pointer 62, 1, 8, [.pointer none]⟩ := by kernel_rfl
@[go_sem] theorem ti_108 : ti Try.prog 108 = ⟨true, .pointer 110, 1, 8, [.pointer none]⟩ := by kernel_rfl
@[go_sem] theorem ti_109 : ti Try.prog 109 = ⟨true, .struct [(0, 90), (1, 24), (2, 24), (3, 24), (4, 2)], 5, 88, [.pointer none, .slice none 0 0, .slice none 0 0, .slice none 0 0, .int .i64 0]⟩ := by kernel_rfl
@[go_sem] theorem ti_110 : ti Try.prog 110 = ⟨true, .struct [(0, 90), (1, 24), (2, 24), (3, 24), (4, 2)], 5, 88, [.pointer none, .slice none 0 0, .slice none 0 0, .slice none 0 0, .int .i64 0]⟩ := by kernel_rfl
@[go_sem] theorem ti_112 : ti Try.prog 112 = ⟨true, .pointer 114, 1, 8, [.pointer none]⟩ := by kernel_rfl
@[go_sem] theorem ti_113 : ti Try.prog 113 = ⟨true, .struct [(0, 48), (3, 24), (4, 24), (5, 24), (6, 2)], 7, 136, [.int .i64 0, .slice none 0 0, .slice none 0 0, .slice none 0 0, .slice none 0 0, .slice none 0 0, .int .i64 0]⟩ := by kernel_rfl
@[go_sem] theorem ti_114 : ti Try.prog 114 = ⟨true, .struct [(0, 48), (3, 24), (4, 24), (5, 24), (6, 2)], 7, 136, [.int .i64 0, .slice none 0 0, .slice none 0 0, .slice none 0 0, .slice none 0 0, .slice none 0 0, .int .i64 0]⟩ := by kernel_rfl
@[go_sem] theorem ti_123 : ti Try.prog 123 = ⟨true, .int .u64, 1, 8, [.int .u64 0]⟩ := by kernel_rfl
@[go_sem] theorem ti_124 : ti Try.prog 124 = ⟨true, .struct [(0, 22), (1, 3), (2, 123)], 3, 40, [.slice none 0 0, .int .i64 0, .int .u64 0]⟩ := by kernel_rfl
@[go_sem] theorem ti_125 : ti Try.prog 125 = ⟨true, .struct [(0, 22), (1, 3), (2, 123)], 3, 40, [.slice none 0 0, .int .i64 0, .int .u64 0]⟩ := by kernel_rfl
@[go_sem] theorem ti_137 : ti Try.prog 137 = ⟨true, .int .u64, 1, 8, [.int .u64 0]⟩ := by kernel_rfl
@[go_sem] theorem ti_139 : ti Try.prog 139 = ⟨true, .array 2 2, 2, 16, [.int .i64 0, .int .i64 0]⟩ := by kernel_rfl
@[go_sem] theorem ti_140 : ti Try.prog 140 = ⟨true, .slice 139, 1, 24, [.slice none 0 0]⟩ := by kernel_rfl
@[go_sem] theorem ti_144 : ti Try.prog 144 = ⟨true, .struct [(0, 17), (1, 17), (2, 17), (3, 9)], 4, 40, [.pointer none, .pointer none, .pointer none, .string ⟨#[]⟩]⟩ := by kernel_rfl
@[go_sem] theorem ti_145 : ti Try.prog 145 = ⟨true, .struct [(0, 17), (1, 17), (2, 17), (3, 9)], 4, 40, [.pointer none, .pointer none, .pointer none, .string ⟨#[]⟩]⟩ := by kernel_rfl
@[go_sem] theorem ti_146 : ti Try.prog 146 = ⟨true, .array 0 16, 0, 0, []⟩ := by kernel_rfl
@[go_sem] theorem ti_147 : ti Try.prog 147 = ⟨true, .struct [(0, 146)], 0, 0, []⟩ := by kernel_rfl
@[go_sem] theorem ti_148 : ti Try.prog 148 = ⟨true, .struct [(0, 146)], 0, 0, []⟩ := by kernel_rfl
@[go_sem] theorem ti_150 : ti Try.prog 150 = ⟨true, .int .u32, 1, 4, [.int .u32 0]⟩ := by kernel_rfl
@[go_sem] theorem ti_151 : ti Try.prog 151 = ⟨true, .int .u8, 1, 1, [.int .u8 0]⟩ := by kernel_rfl
@[go_sem] theorem ti_152 : ti Try.prog 152 = ⟨true, .int .u8, 1, 1, [.int .u8 0]⟩ := by kernel_rfl
@[go_sem] theorem ti_154 : ti Try.prog 154 = ⟨true, .pointer 5, 1, 8, [.pointer none]⟩ := by kernel_rfl
@[go_sem] theorem ti_155 : ti Try.prog 155 = ⟨true, .int .i32, 1, 4, [.int .i32 0]⟩ := by kernel_rfl
@[go_sem] theorem ti_156 : ti Try.prog 156 = ⟨true, .int .i32, 1, 4, [.int .i32 0]⟩ := by kernel_rfl
@[go_sem] theorem ti_157 : ti Try.prog 157 = ⟨true, .struct [(0, 12), (1, 12), (2, 150), (3, 151), (4, 5), (5, 5), (6, 152), (7, 153), (8, 154), (9, 155), (10, 156)], 11, 48, [.int .u64 0, .int .u64 0, .int .u32 0, .int .u8 0, .int .u8 0, .int .u8 0, .int .u8 0, .nilFunc, .pointer none, .int .i32 0, .int .i32 0]⟩ := by kernel_rfl
@[go_sem] theorem ti_158 : ti Try.prog 158 = ⟨true, .struct [(0, 12), (1, 12), (2, 150), (3, 151), (4, 5), (5, 5), (6, 152), (7, 153), (8, 154), (9, 155), (10, 156)], 11, 48, [.int .u64 0, .int .u64 0, .int .u32 0, .int .u8 0, .int .u8 0, .int .u8 0, .int .u8 0, .nilFunc, .pointer none, .int .i32 0, .int .i32 0]⟩ := by kernel_rfl
@[go_sem] theorem eqi_43 : eqInfo Try.prog 43 = some [(0, 2), (1, 2), (2, 2)] := by kernel_rfl
@[go_sem] theorem eqi_44 : eqInfo Try.prog 44 = some [(0, 2), (1, 2), (2, 2)] := by kernel_rfl
@[go_sem] theorem eqi_52 : eqInfo Try.prog 52 = some [(0, 2), (1, 2), (2, 2)] := by kernel_rfl
theorem mixed : Try.prog.follows .mixedOrders = true := by kernel_rfl
end Go.Proofs.Ytkgfpephkinocaa
