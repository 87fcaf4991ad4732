/-
  AG, part T: what the program says of its types, row by row, for simp. Conditions: none. Written by a program (gen_t.py).
-/
import Derived.Test.YtagplnmpcgmhdaaProg
import Derived.Test.YtagplnmpcgmhdaaAgQ
import Derived.KernelRfl
namespace Go.Proofs.Ytagplnmpcgmhdaa
open Go.AG
@[go_sem] theorem ti_2 : ti Try.prog 2 = ⟨true, .int .i64, 1, 8, [.int .i64 0]⟩ := by kernel_rfl
@[go_sem] theorem ti_3 : ti Try.prog 3 = ⟨true, .int .i64, 1, 8, [.int .i64 0]⟩ := by kernel_rfl
@[go_sem] theorem ti_4 : ti Try.prog 4 = ⟨true, .bool, 1, 1, [.bool false]⟩ := by kernel_rfl
@[go_sem] theorem ti_5 : ti Try.prog 5 = ⟨true, .int .u8, 1, 1, [.int .u8 0]⟩ := by kernel_rfl
@[go_sem] theorem ti_6 : ti Try.prog 6 = ⟨true, .int .u8, 1, 1, [.int .u8 0]⟩ := by kernel_rfl
@[go_sem] theorem ti_7 : ti Try.prog 7 = ⟨true, .struct [(0, 2), (1, 3), (2, 4), (3, 6)], 4, 24, [.int .i64 0, .int .i64 0, .bool false, .int .u8 0]⟩ := by kernel_rfl
@[go_sem] theorem ti_8 : ti Try.prog 8 = ⟨true, .struct [(0, 2), (1, 3), (2, 4), (3, 6)], 4, 24, [.int .i64 0, .int .i64 0, .bool false, .int .u8 0]⟩ := by kernel_rfl
@[go_sem] theorem ti_9 : ti Try.prog 9 = ⟨true, .string, 1, 16, [.string ⟨#[]⟩]⟩ := by kernel_rfl
@[go_sem] theorem ti_10 : ti Try.prog 10 = ⟨true, .string, 1, 16, [.string ⟨#[]⟩]⟩ := by kernel_rfl
@[go_sem] theorem ti_11 : ti Try.prog 11 = ⟨true, .string, 1, 16, [.string ⟨#[]⟩]⟩ := by kernel_rfl
@[go_sem] theorem ti_12 : ti Try.prog 12 = ⟨true, .int .u64, 1, 8, [.int .u64 0]⟩ := by kernel_rfl
@[go_sem] theorem ti_13 : ti Try.prog 13 = ⟨true, .struct [(0, 9), (1, 12)], 2, 24, [.string ⟨#[]⟩, .int .u64 0]⟩ := by kernel_rfl
@[go_sem] theorem ti_14 : ti Try.prog 14 = ⟨true, .struct [(0, 9), (1, 12)], 2, 24, [.string ⟨#[]⟩, .int .u64 0]⟩ := by kernel_rfl
@[go_sem] theorem ti_15 : ti Try.prog 15 = ⟨true, .pointer 214, 1, 8, [.pointer none]⟩ := by kernel_rfl
@[go_sem] theorem ti_16 : ti Try.prog 16 = ⟨true, .pointer 217, 1, 8, [.pointer none]⟩ := by kernel_rfl
@[go_sem] theorem ti_17 : ti Try.prog 17 = ⟨true, .pointer 227, 1, 8, [.pointer none]⟩ := by kernel_rfl
@[go_sem] theorem ti_18 : ti Try.prog 18 = ⟨true, .struct [(0, 17)], 1, 8, [.pointer none]⟩ := by kernel_rfl
@[go_sem] theorem ti_19 : ti Try.prog 19 = ⟨true, .struct [(0, 17)], 1, 8, [.pointer none]⟩ := by kernel_rfl
@[go_sem] theorem ti_21 : ti Try.prog 21 = ⟨true, .int .i32, 1, 4, [.int .i32 0]⟩ := by kernel_rfl
@[go_sem] theorem ti_22 : ti Try.prog 22 = ⟨true, .slice 2, 1, 24, [.slice none 0 0]⟩ := by kernel_rfl
@[go_sem] theorem ti_29 : ti Try.prog 29 = ⟨true, .slice 178, 1, 24, [.slice none 0 0]⟩ := by kernel_rfl
@[go_sem] theorem ti_30 : ti Try.prog 30 = ⟨true, .struct [(0, 2), (1, 22), (2, 29)], 3, 56, [.int .i64 0, .slice none 0 0, .slice none 0 0]⟩ := by kernel_rfl
@[go_sem] theorem ti_31 : ti Try.prog 31 = ⟨true, .struct [(0, 2), (1, 22), (2, 29)], 3, 56, [.int .i64 0, .slice none 0 0, .slice none 0 0]⟩ := by kernel_rfl
@[go_sem] theorem ti_35 : ti Try.prog 35 = ⟨true, .slice 170, 1, 24, [.slice none 0 0]⟩ := by kernel_rfl
@[go_sem] theorem ti_36 : ti Try.prog 36 = ⟨true, .struct [(0, 2), (1, 22), (2, 35)], 3, 56, [.int .i64 0, .slice none 0 0, .slice none 0 0]⟩ := by kernel_rfl
@[go_sem] theorem ti_37 : ti Try.prog 37 = ⟨true, .struct [(0, 2), (1, 22), (2, 35)], 3, 56, [.int .i64 0, .slice none 0 0, .slice none 0 0]⟩ := by kernel_rfl
@[go_sem] theorem ti_42 : ti Try.prog 42 = ⟨true, .slice 5, 1, 24, [.slice none 0 0]⟩ := by kernel_rfl
@[go_sem] theorem ti_44 : ti Try.prog 44 = ⟨true, .slice 57, 1, 24, [.slice none 0 0]⟩ := by kernel_rfl
@[go_sem] theorem ti_45 : ti Try.prog 45 = ⟨true, .struct [(0, 2), (1, 44)], 2, 32, [.int .i64 0, .slice none 0 0]⟩ := by kernel_rfl
@[go_sem] theorem ti_46 : ti Try.prog 46 = ⟨true, .struct [(0, 2), (1, 44)], 2, 32, [.int .i64 0, .slice none 0 0]⟩ := by kernel_rfl
@[go_sem] theorem ti_56 : ti Try.prog 56 = ⟨true, .struct [(0, 2), (1, 2), (2, 2)], 3, 24, [.int .i64 0, .int .i64 0, .int .i64 0]⟩ := by kernel_rfl
@[go_sem] theorem ti_57 : ti Try.prog 57 = ⟨true, .struct [(0, 2), (1, 2), (2, 2)], 3, 24, [.int .i64 0, .int .i64 0, .int .i64 0]⟩ := by kernel_rfl
@[go_sem] theorem ti_60 : ti Try.prog 60 = ⟨true, .slice 68, 1, 24, [.slice none 0 0]⟩ := by kernel_rfl
@[go_sem] theorem ti_67 : ti Try.prog 67 = ⟨true, .struct [(0, 2), (1, 2), (2, 2), (3, 2)], 4, 32, [.int .i64 0, .int .i64 0, .int .i64 0, .int .i64 0]⟩ := by kernel_rfl
@[go_sem] theorem ti_68 : ti Try.prog 68 = ⟨true, .struct [(0, 2), (1, 2), (2, 2), (3, 2)], 4, 32, [.int .i64 0, .int .i64 0, .int .i64 0, .int .i64 0]⟩ := by kernel_rfl
@[go_sem] theorem ti_70 : ti Try.prog 70 = ⟨true, .struct [(0, 2), (1, 2), (2, 2), (3, 2), (4, 22), (5, 22)], 6, 80, [.int .i64 0, .int .i64 0, .int .i64 0, .int .i64 0, .slice none 0 0, .slice none 0 0]⟩ := by kernel_rfl
@[go_sem] theorem ti_71 : ti Try.prog 71 = ⟨true, .struct [(0, 2), (1, 2), (2, 2), (3, 2), (4, 22), (5, 22)], 6, 80, [.int .i64 0, .int .i64 0, .int .i64 0, .int .i64 0, .slice none 0 0, .slice none 0 0]⟩ := by kernel_rfl
@[go_sem] theorem ti_79 : ti Try.prog 79 = ⟨true, .slice 92, 1, 24, [.slice none 0 0]⟩ := by kernel_rfl
@[go_sem] theorem ti_91 : ti Try.prog 91 = ⟨true, .struct [(0, 2), (1, 2)], 2, 16, [.int .i64 0, .int .i64 0]⟩ := by kernel_rfl
@[go_sem] theorem ti_92 : ti Try.prog 92 = ⟨true, .struct [(0, 2), (1, 2)], 2, 16, [.int .i64 0, .int .i64 0]⟩ := by kernel_rfl
@[go_sem] theorem ti_99 : ti Try.prog 99 = ⟨true, .int .u64, 1, 8, [.int .u64 0]⟩ := by kernel_rfl
@[go_sem] theorem ti_101 : ti Try.prog 101 = ⟨true, .slice 22, 1, 24, [.slice none 0 0]⟩ := by kernel_rfl
@[go_sem] theorem ti_106 : ti Try.prog 106 = ⟨true, .pointer 37, 1, 8, [.pointer none]⟩ := by kernel_rfl
@[go_sem] theorem ti_107 : ti Try.prog 107 = ⟨true, .pointer 109, 1, 8, [.pointer none]⟩ := by kernel_rfl
@[go_sem] theorem ti_108 : ti Try.prog 108 = ⟨true, .struct [(0, 106), (1, 22), (2, 22), (3, 22), (4, 2)], 5, 88, [.pointer none, .slice none 0 0, .slice none 0 0, .slice none 0 0, .int .i64 0]⟩ := by kernel_rfl
@[go_sem] theorem ti_109 : ti Try.prog 109 = ⟨true, .struct [(0, 106), (1, 22), (2, 22), (3, 22), (4, 2)], 5, 88, [.pointer none, .slice none 0 0, .slice none 0 0, .slice none 0 0, .int .i64 0]⟩ := by kernel_rfl
@[go_sem] theorem ti_113 : ti Try.prog 113 = ⟨true, .pointer 115, 1, 8, [.pointer none]⟩ := by kernel_rfl
@[go_sem] theorem ti_114 : ti Try.prog 114 = ⟨true, .struct [(0, 37), (3, 22), (4, 22), (5, 22), (6, 2)], 7, 136, [.int .i64 0, .slice none 0 0, .slice none 0 0, .slice none 0 0, .slice none 0 0, .slice none 0 0, .int .i64 0]⟩ := by kernel_rfl
@[go_sem] theorem ti_115 : ti Try.prog 115 = ⟨true, .struct [(0, 37), (3, 22), (4, 22), (5, 22), (6, 2)], 7, 136, [.int .i64 0, .slice none 0 0, .slice none 0 0, .slice none 0 0, .slice none 0 0, .slice none 0 0, .int .i64 0]⟩ := by kernel_rfl
@[go_sem] theorem ti_118 : ti Try.prog 118 = ⟨true, .pointer 183, 1, 8, [.pointer none]⟩ := by kernel_rfl
@[go_sem] theorem ti_122 : ti Try.prog 122 = ⟨true, .pointer 128, 1, 8, [.pointer none]⟩ := by kernel_rfl
@[go_sem] theorem ti_124 : ti Try.prog 124 = ⟨true, .pointer 46, 1, 8, [.pointer none]⟩ := by kernel_rfl
@[go_sem] theorem ti_125 : ti Try.prog 125 = ⟨true, .slice 4, 1, 24, [.slice none 0 0]⟩ := by kernel_rfl
@[go_sem] theorem ti_126 : ti Try.prog 126 = ⟨true, .slice 3, 1, 24, [.slice none 0 0]⟩ := by kernel_rfl
@[go_sem] theorem ti_127 : ti Try.prog 127 = ⟨true, .struct [(0, 125), (1, 126)], 2, 48, [.slice none 0 0, .slice none 0 0]⟩ := by kernel_rfl
@[go_sem] theorem ti_128 : ti Try.prog 128 = ⟨true, .struct [(0, 125), (1, 126)], 2, 48, [.slice none 0 0, .slice none 0 0]⟩ := by kernel_rfl
@[go_sem] theorem ti_152 : ti Try.prog 152 = ⟨true, .pointer 71, 1, 8, [.pointer none]⟩ := by kernel_rfl
@[go_sem] theorem ti_169 : ti Try.prog 169 = ⟨true, .struct [(0, 2), (1, 2), (2, 2)], 3, 24, [.int .i64 0, .int .i64 0, .int .i64 0]⟩ := by kernel_rfl
@[go_sem] theorem ti_170 : ti Try.prog 170 = ⟨true, .struct [(0, 2), (1, 2), (2, 2)], 3, 24, [.int .i64 0, .int .i64 0, .int .i64 0]⟩ := by kernel_rfl
@[go_sem] theorem ti_173 : ti Try.prog 173 = ⟨true, .pointer 170, 1, 8, [.pointer none]⟩ := by kernel_rfl
@[go_sem] theorem ti_178 : ti Try.prog 178 = ⟨true, .struct [(0, 2), (1, 2), (2, 2)], 3, 24, [.int .i64 0, .int .i64 0, .int .i64 0]⟩ := by kernel_rfl
@[go_sem] theorem ti_181 : ti Try.prog 181 = ⟨true, .int .u64, 1, 8, [.int .u64 0]⟩ := by kernel_rfl
@[go_sem] theorem ti_182 : ti Try.prog 182 = ⟨true, .struct [(0, 42), (1, 3), (2, 181)], 3, 40, [.slice none 0 0, .int .i64 0, .int .u64 0]⟩ := by kernel_rfl
@[go_sem] theorem ti_183 : ti Try.prog 183 = ⟨true, .struct [(0, 42), (1, 3), (2, 181)], 3, 40, [.slice none 0 0, .int .i64 0, .int .u64 0]⟩ := by kernel_rfl
@[go_sem] theorem ti_197 : ti Try.prog 197 = ⟨true, .pointer 68, 1, 8, [.pointer none]⟩ := by kernel_rfl
@[go_sem] theorem ti_206 : ti Try.prog 206 = ⟨true, .pointer 92, 1, 8, [.pointer none]⟩ := by kernel_rfl
@[go_sem] theorem ti_213 : ti Try.prog 213 = ⟨true, .struct [(0, 17), (1, 17), (2, 17), (3, 9)], 4, 40, [.pointer none, .pointer none, .pointer none, .string ⟨#[]⟩]⟩ := by kernel_rfl
@[go_sem] theorem ti_214 : ti Try.prog 214 = ⟨true, .struct [(0, 17), (1, 17), (2, 17), (3, 9)], 4, 40, [.pointer none, .pointer none, .pointer none, .string ⟨#[]⟩]⟩ := by kernel_rfl
@[go_sem] theorem ti_215 : ti Try.prog 215 = ⟨true, .array 0 16, 0, 0, []⟩ := by kernel_rfl
@[go_sem] theorem ti_216 : ti Try.prog 216 = ⟨true, .struct [(0, 215)], 0, 0, []⟩ := by kernel_rfl
@[go_sem] theorem ti_217 : ti Try.prog 217 = ⟨true, .struct [(0, 215)], 0, 0, []⟩ := by kernel_rfl
@[go_sem] theorem ti_219 : ti Try.prog 219 = ⟨true, .int .u32, 1, 4, [.int .u32 0]⟩ := by kernel_rfl
@[go_sem] theorem ti_220 : ti Try.prog 220 = ⟨true, .int .u8, 1, 1, [.int .u8 0]⟩ := by kernel_rfl
@[go_sem] theorem ti_221 : ti Try.prog 221 = ⟨true, .int .u8, 1, 1, [.int .u8 0]⟩ := by kernel_rfl
@[go_sem] theorem ti_223 : ti Try.prog 223 = ⟨true, .pointer 5, 1, 8, [.pointer none]⟩ := by kernel_rfl
@[go_sem] theorem ti_224 : ti Try.prog 224 = ⟨true, .int .i32, 1, 4, [.int .i32 0]⟩ := by kernel_rfl
@[go_sem] theorem ti_225 : ti Try.prog 225 = ⟨true, .int .i32, 1, 4, [.int .i32 0]⟩ := by kernel_rfl
@[go_sem] theorem ti_226 : ti Try.prog 226 = ⟨true, .struct [(0, 12), (1, 12), (2, 219), (3, 220), (4, 5), (5, 5), (6, 221), (7, 222), (8, 223), (9, 224), (10, 225)], 11, 48, [.int .u64 0, .int .u64 0, .int .u32 0, .int .u8 0, .int .u8 0, .int .u8 0, .int .u8 0, .nilFunc, .pointer none, .int .i32 0, .int .i32 0]⟩ := by kernel_rfl
@[go_sem] theorem ti_227 : ti Try.prog 227 = ⟨true, .struct [(0, 12), (1, 12), (2, 219), (3, 220), (4, 5), (5, 5), (6, 221), (7, 222), (8, 223), (9, 224), (10, 225)], 11, 48, [.int .u64 0, .int .u64 0, .int .u32 0, .int .u8 0, .int .u8 0, .int .u8 0, .int .u8 0, .nilFunc, .pointer none, .int .i32 0, .int .i32 0]⟩ := by kernel_rfl
@[go_sem] theorem eqi_56 : eqInfo Try.prog 56 = some [(0, 2), (1, 2), (2, 2)] := by kernel_rfl
@[go_sem] theorem eqi_57 : eqInfo Try.prog 57 = some [(0, 2), (1, 2), (2, 2)] := by kernel_rfl
@[go_sem] theorem eqi_67 : eqInfo Try.prog 67 = some [(0, 2), (1, 2), (2, 2), (3, 2)] := by kernel_rfl
@[go_sem] theorem eqi_68 : eqInfo Try.prog 68 = some [(0, 2), (1, 2), (2, 2), (3, 2)] := by kernel_rfl
@[go_sem] theorem eqi_91 : eqInfo Try.prog 91 = some [(0, 2), (1, 2)] := by kernel_rfl
@[go_sem] theorem eqi_92 : eqInfo Try.prog 92 = some [(0, 2), (1, 2)] := by kernel_rfl
@[go_sem] theorem eqi_169 : eqInfo Try.prog 169 = some [(0, 2), (1, 2), (2, 2)] := by kernel_rfl
@[go_sem] theorem eqi_170 : eqInfo Try.prog 170 = some [(0, 2), (1, 2), (2, 2)] := by kernel_rfl
@[go_sem] theorem eqi_178 : eqInfo Try.prog 178 = some [(0, 2), (1, 2), (2, 2)] := by kernel_rfl
theorem mixed : Try.prog.follows .mixedOrders = true := by kernel_rfl
end Go.Proofs.Ytagplnmpcgmhdaa
