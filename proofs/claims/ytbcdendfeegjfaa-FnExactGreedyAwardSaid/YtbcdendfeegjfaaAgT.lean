/-
  AG, part T: what the program says of its types, row by row, for simp. Conditions: none. Written by a program (gen_t.py).
-/
import Derived.Test.YtbcdendfeegjfaaProg
import Derived.Test.YtbcdendfeegjfaaAgQ
import Derived.KernelRfl
namespace Go.Proofs.Ytbcdendfeegjfaa
open Go.AG
@[go_sem] theorem ti_2 : ti Try.prog 2 = ⟨true, .int .i64, 1, 8, [.int .i64 0]⟩ := by kernel_rfl
@[go_sem] theorem ti_3 : ti Try.prog 3 = ⟨true, .int .i64, 1, 8, [.int .i64 0]⟩ := by kernel_rfl
@[go_sem] theorem ti_4 : ti Try.prog 4 = ⟨true, .bool, 1, 1, [.bool false]⟩ := by kernel_rfl
@[go_sem] theorem ti_5 : ti Try.prog 5 = ⟨true, .int .u8, 1, 1, [.int .u8 0]⟩ := by kernel_rfl
@[go_sem] theorem ti_6 : ti Try.prog 6 = ⟨true, .int .u8, 1, 1, [.int .u8 0]⟩ := by kernel_rfl
@[go_sem] theorem ti_7 : ti Try.prog 7 = ⟨true, .struct [(0, 2), (1, 3), (2, 4), (3, 6)], 4, 24, [.int .i64 0, .int .i64 0, .bool false, .int .u8 0]⟩ := by kernel_rfl
@[go_sem] theorem ti_8 : ti Try.prog 8 = ⟨true, .struct [(0, 2), (1, 3), (2, 4), (3, 6)], 4, 24, [.int .i64 0, .int .i64 0, .bool false, .int .u8 0]⟩ := by kernel_rfl
@[go_sem] theorem ti_9 : ti Try.prog 9 = ⟨true, .string, 1, 16, [.string ⟨#[]⟩]⟩ := by kernel_rfl
@[go_sem] theorem ti_10 : ti Try.prog 10 = ⟨true, .string, 1, 16, [.string ⟨#[]⟩]⟩ := by kernel_rfl
@[go_sem] theorem ti_11 : ti Try.prog 11 = ⟨true, .string, 1, 16, [.string ⟨#[]⟩]⟩ := by kernel_rfl
@[go_sem] theorem ti_12 : ti Try.prog 12 = ⟨true, .int .u64, 1, 8, [.int .u64 0]⟩ := by kernel_rfl
@[go_sem] theorem ti_13 : ti Try.prog 13 = ⟨true, .struct [(0, 9), (1, 12)], 2, 24, [.string ⟨#[]⟩, .int .u64 0]⟩ := by kernel_rfl
@[go_sem] theorem ti_14 : ti Try.prog 14 = ⟨true, .struct [(0, 9), (1, 12)], 2, 24, [.string ⟨#[]⟩, .int .u64 0]⟩ := by kernel_rfl
@[go_sem] theorem ti_15 : ti Try.prog 15 = ⟨true, .pointer 258, 1, 8, [.pointer none]⟩ := by kernel_rfl
@[go_sem] theorem ti_16 : ti Try.prog 16 = ⟨true, .pointer 261, 1, 8, [.pointer none]⟩ := by kernel_rfl
@[go_sem] theorem ti_17 : ti Try.prog 17 = ⟨true, .pointer 271, 1, 8, [.pointer none]⟩ := by kernel_rfl
@[go_sem] theorem ti_18 : ti Try.prog 18 = ⟨true, .struct [(0, 17)], 1, 8, [.pointer none]⟩ := by kernel_rfl
@[go_sem] theorem ti_19 : ti Try.prog 19 = ⟨true, .struct [(0, 17)], 1, 8, [.pointer none]⟩ := by kernel_rfl
@[go_sem] theorem ti_21 : ti Try.prog 21 = ⟨true, .int .i32, 1, 4, [.int .i32 0]⟩ := by kernel_rfl
@[go_sem] theorem ti_22 : ti Try.prog 22 = ⟨true, .slice 2, 1, 24, [.slice none 0 0]⟩ := by kernel_rfl
@[go_sem] theorem ti_23 : ti Try.prog 23 = ⟨true, .slice 39, 1, 24, [.slice none 0 0]⟩ := by kernel_rfl
@[go_sem] theorem ti_24 : ti Try.prog 24 = ⟨true, .struct [(0, 2), (1, 22), (2, 23)], 3, 56, [.int .i64 0, .slice none 0 0, .slice none 0 0]⟩ := by kernel_rfl
@[go_sem] theorem ti_25 : ti Try.prog 25 = ⟨true, .struct [(0, 2), (1, 22), (2, 23)], 3, 56, [.int .i64 0, .slice none 0 0, .slice none 0 0]⟩ := by kernel_rfl
@[go_sem] theorem ti_29 : ti Try.prog 29 = ⟨true, .slice 42, 1, 24, [.slice none 0 0]⟩ := by kernel_rfl
@[go_sem] theorem ti_30 : ti Try.prog 30 = ⟨true, .struct [(0, 2), (1, 22), (2, 29)], 3, 56, [.int .i64 0, .slice none 0 0, .slice none 0 0]⟩ := by kernel_rfl
@[go_sem] theorem ti_31 : ti Try.prog 31 = ⟨true, .struct [(0, 2), (1, 22), (2, 29)], 3, 56, [.int .i64 0, .slice none 0 0, .slice none 0 0]⟩ := by kernel_rfl
@[go_sem] theorem ti_38 : ti Try.prog 38 = ⟨true, .struct [(0, 2), (1, 2), (2, 2)], 3, 24, [.int .i64 0, .int .i64 0, .int .i64 0]⟩ := by kernel_rfl
@[go_sem] theorem ti_39 : ti Try.prog 39 = ⟨true, .struct [(0, 2), (1, 2), (2, 2)], 3, 24, [.int .i64 0, .int .i64 0, .int .i64 0]⟩ := by kernel_rfl
@[go_sem] theorem ti_42 : ti Try.prog 42 = ⟨true, .struct [(0, 2), (1, 2), (2, 2)], 3, 24, [.int .i64 0, .int .i64 0, .int .i64 0]⟩ := by kernel_rfl
@[go_sem] theorem ti_47 : ti Try.prog 47 = ⟨true, .struct [(0, 2), (1, 2), (2, 22)], 3, 40, [.int .i64 0, .int .i64 0, .slice none 0 0]⟩ := by kernel_rfl
@[go_sem] theorem ti_48 : ti Try.prog 48 = ⟨true, .struct [(0, 2), (1, 2), (2, 22)], 3, 40, [.int .i64 0, .int .i64 0, .slice none 0 0]⟩ := by kernel_rfl
@[go_sem] theorem ti_52 : ti Try.prog 52 = ⟨true, .struct [(0, 2), (1, 2), (2, 22)], 3, 40, [.int .i64 0, .int .i64 0, .slice none 0 0]⟩ := by kernel_rfl
@[go_sem] theorem ti_56 : ti Try.prog 56 = ⟨true, .slice 22, 1, 24, [.slice none 0 0]⟩ := by kernel_rfl
@[go_sem] theorem ti_63 : ti Try.prog 63 = ⟨true, .slice 5, 1, 24, [.slice none 0 0]⟩ := by kernel_rfl
@[go_sem] theorem ti_65 : ti Try.prog 65 = ⟨true, .slice 76, 1, 24, [.slice none 0 0]⟩ := by kernel_rfl
@[go_sem] theorem ti_66 : ti Try.prog 66 = ⟨true, .struct [(0, 2), (1, 65)], 2, 32, [.int .i64 0, .slice none 0 0]⟩ := by kernel_rfl
@[go_sem] theorem ti_67 : ti Try.prog 67 = ⟨true, .struct [(0, 2), (1, 65)], 2, 32, [.int .i64 0, .slice none 0 0]⟩ := by kernel_rfl
@[go_sem] theorem ti_75 : ti Try.prog 75 = ⟨true, .struct [(0, 2), (1, 2), (2, 2)], 3, 24, [.int .i64 0, .int .i64 0, .int .i64 0]⟩ := by kernel_rfl
@[go_sem] theorem ti_76 : ti Try.prog 76 = ⟨true, .struct [(0, 2), (1, 2), (2, 2)], 3, 24, [.int .i64 0, .int .i64 0, .int .i64 0]⟩ := by kernel_rfl
@[go_sem] theorem ti_79 : ti Try.prog 79 = ⟨true, .slice 87, 1, 24, [.slice none 0 0]⟩ := by kernel_rfl
@[go_sem] theorem ti_86 : ti Try.prog 86 = ⟨true, .struct [(0, 2), (1, 2), (2, 2), (3, 2)], 4, 32, [.int .i64 0, .int .i64 0, .int .i64 0, .int .i64 0]⟩ := by kernel_rfl
@[go_sem] theorem ti_87 : ti Try.prog 87 = ⟨true, .struct [(0, 2), (1, 2), (2, 2), (3, 2)], 4, 32, [.int .i64 0, .int .i64 0, .int .i64 0, .int .i64 0]⟩ := by kernel_rfl
@[go_sem] theorem ti_89 : ti Try.prog 89 = ⟨true, .struct [(0, 2), (1, 2), (2, 2), (3, 2), (4, 22), (5, 22)], 6, 80, [.int .i64 0, .int .i64 0, .int .i64 0, .int .i64 0, .slice none 0 0, .slice none 0 0]⟩ := by kernel_rfl
@[go_sem] theorem ti_90 : ti Try.prog 90 = ⟨true, .struct [(0, 2), (1, 2), (2, 2), (3, 2), (4, 22), (5, 22)], 6, 80, [.int .i64 0, .int .i64 0, .int .i64 0, .int .i64 0, .slice none 0 0, .slice none 0 0]⟩ := by kernel_rfl
@[go_sem] theorem ti_98 : ti Try.prog 98 = ⟨true, .slice 111, 1, 24, [.slice none 0 0]⟩ := by kernel_rfl
@[go_sem] theorem ti_110 : ti Try.prog 110 = ⟨true, .struct [(0, 2), (1, 2)], 2, 16, [.int .i64 0, .int .i64 0]⟩ := by kernel_rfl
@[go_sem] theorem ti_111 : ti Try.prog 111 = ⟨true, .struct [(0, 2), (1, 2)], 2, 16, [.int .i64 0, .int .i64 0]⟩ := by kernel_rfl
@[go_sem] theorem ti_125 : ti Try.prog 125 = ⟨true, .pointer 31, 1, 8, [.pointer none]⟩ := by kernel_rfl
@[go_sem] theorem ti_138 : ti Try.prog 138 = ⟨true, .pointer 42, 1, 8, [.pointer none]⟩ := by kernel_rfl
@[go_sem] theorem ti_144 : ti Try.prog 144 = ⟨true, .pointer 52, 1, 8, [.pointer none]⟩ := by kernel_rfl
@[go_sem] theorem ti_149 : ti Try.prog 149 = ⟨true, .pointer 151, 1, 8, [.pointer none]⟩ := by kernel_rfl
@[go_sem] theorem ti_150 : ti Try.prog 150 = ⟨true, .struct [(0, 125), (1, 22), (2, 22), (3, 22), (4, 2)], 5, 88, [.pointer none, .slice none 0 0, .slice none 0 0, .slice none 0 0, .int .i64 0]⟩ := by kernel_rfl
@[go_sem] theorem ti_151 : ti Try.prog 151 = ⟨true, .struct [(0, 125), (1, 22), (2, 22), (3, 22), (4, 2)], 5, 88, [.pointer none, .slice none 0 0, .slice none 0 0, .slice none 0 0, .int .i64 0]⟩ := by kernel_rfl
@[go_sem] theorem ti_153 : ti Try.prog 153 = ⟨true, .pointer 155, 1, 8, [.pointer none]⟩ := by kernel_rfl
@[go_sem] theorem ti_154 : ti Try.prog 154 = ⟨true, .struct [(0, 31), (3, 22), (4, 22), (5, 22), (6, 2)], 7, 136, [.int .i64 0, .slice none 0 0, .slice none 0 0, .slice none 0 0, .slice none 0 0, .slice none 0 0, .int .i64 0]⟩ := by kernel_rfl
@[go_sem] theorem ti_155 : ti Try.prog 155 = ⟨true, .struct [(0, 31), (3, 22), (4, 22), (5, 22), (6, 2)], 7, 136, [.int .i64 0, .slice none 0 0, .slice none 0 0, .slice none 0 0, .slice none 0 0, .slice none 0 0, .int .i64 0]⟩ := by kernel_rfl
@[go_sem] theorem ti_160 : ti Try.prog 160 = ⟨true, .pointer 223, 1, 8, [.pointer none]⟩ := by kernel_rfl
@[go_sem] theorem ti_164 : ti Try.prog 164 = ⟨true, .pointer 170, 1, 8, [.pointer none]⟩ := by kernel_rfl
@[go_sem] theorem ti_166 : ti Try.prog 166 = ⟨true, .pointer 67, 1, 8, [.pointer none]⟩ := by kernel_rfl
@[go_sem] theorem ti_167 : ti Try.prog 167 = ⟨true, .slice 4, 1, 24, [.slice none 0 0]⟩ := by kernel_rfl
@[go_sem] theorem ti_168 : ti Try.prog 168 = ⟨true, .slice 3, 1, 24, [.slice none 0 0]⟩ := by kernel_rfl
@[go_sem] theorem ti_169 : ti Try.prog 169 = ⟨true, .struct [(0, 167), (1, 168)], 2, 48, [.slice none 0 0, .slice none 0 0]⟩ := by kernel_rfl
@[go_sem] theorem ti_170 : ti Try.prog 170 = ⟨true, .struct [(0, 167), (1, 168)], 2, 48, [.slice none 0 0, .slice none 0 0]⟩ := by kernel_rfl
@[go_sem] theorem ti_192 : ti Try.prog 192 = ⟨true, .pointer 90, 1, 8, [.pointer none]⟩ := by kernel_rfl
@[go_sem] theorem ti_221 : ti Try.prog 221 = ⟨true, .int .u64, 1, 8, [.int .u64 0]⟩ := by kernel_rfl
@[go_sem] theorem ti_222 : ti Try.prog 222 = ⟨true, .struct [(0, 63), (1, 3), (2, 221)], 3, 40, [.slice none 0 0, .int .i64 0, .int .u64 0]⟩ := by kernel_rfl
@[go_sem] theorem ti_223 : ti Try.prog 223 = ⟨true, .struct [(0, 63), (1, 3), (2, 221)], 3, 40, [.slice none 0 0, .int .i64 0, .int .u64 0]⟩ := by kernel_rfl
@[go_sem] theorem ti_237 : ti Try.prog 237 = ⟨true, .pointer 87, 1, 8, [.pointer none]⟩ := by kernel_rfl
@[go_sem] theorem ti_246 : ti Try.prog 246 = ⟨true, .pointer 111, 1, 8, [.pointer none]⟩ := by kernel_rfl
@[go_sem] theorem ti_247 : ti Try.prog 247 = ⟨true, .array 2 2, 2, 16, [.int .i64 0, .int .i64 0]⟩ := by kernel_rfl
@[go_sem] theorem ti_248 : ti Try.prog 248 = ⟨true, .slice 247, 1, 24, [.slice none 0 0]⟩ := by kernel_rfl
@[go_sem] theorem ti_251 : ti Try.prog 251 = ⟨true, .int .u64, 1, 8, [.int .u64 0]⟩ := by kernel_rfl
@[go_sem] theorem ti_257 : ti Try.prog 257 = ⟨true, .struct [(0, 17), (1, 17), (2, 17), (3, 9)], 4, 40, [.pointer none, .pointer none, .pointer none, .string ⟨#[]⟩]⟩ := by kernel_rfl
@[go_sem] theorem ti_258 : ti Try.prog 258 = ⟨true, .struct [(0, 17), (1, 17), (2, 17), (3, 9)], 4, 40, [.pointer none, .pointer none, .pointer none, .string ⟨#[]⟩]⟩ := by kernel_rfl
@[go_sem] theorem ti_259 : ti Try.prog 259 = ⟨true, .array 0 16, 0, 0, []⟩ := by kernel_rfl
@[go_sem] theorem ti_260 : ti Try.prog 260 = ⟨true, .struct [(0, 259)], 0, 0, []⟩ := by kernel_rfl
@[go_sem] theorem ti_261 : ti Try.prog 261 = ⟨true, .struct [(0, 259)], 0, 0, []⟩ := by kernel_rfl
@[go_sem] theorem ti_263 : ti Try.prog 263 = ⟨true, .int .u32, 1, 4, [.int .u32 0]⟩ := by kernel_rfl
@[go_sem] theorem ti_264 : ti Try.prog 264 = ⟨true, .int .u8, 1, 1, [.int .u8 0]⟩ := by kernel_rfl
@[go_sem] theorem ti_265 : ti Try.prog 265 = ⟨true, .int .u8, 1, 1, [.int .u8 0]⟩ := by kernel_rfl
@[go_sem] theorem ti_267 : ti Try.prog 267 = ⟨true, .pointer 5, 1, 8, [.pointer none]⟩ := by kernel_rfl
@[go_sem] theorem ti_268 : ti Try.prog 268 = ⟨true, .int .i32, 1, 4, [.int .i32 0]⟩ := by kernel_rfl
@[go_sem] theorem ti_269 : ti Try.prog 269 = ⟨true, .int .i32, 1, 4, [.int .i32 0]⟩ := by kernel_rfl
@[go_sem] theorem ti_270 : ti Try.prog 270 = ⟨true, .struct [(0, 12), (1, 12), (2, 263), (3, 264), (4, 5), (5, 5), (6, 265), (7, 266), (8, 267), (9, 268), (10, 269)], 11, 48, [.int .u64 0, .int .u64 0, .int .u32 0, .int .u8 0, .int .u8 0, .int .u8 0, .int .u8 0, .nilFunc, .pointer none, .int .i32 0, .int .i32 0]⟩ := by kernel_rfl
@[go_sem] theorem ti_271 : ti Try.prog 271 = ⟨true, .struct [(0, 12), (1, 12), (2, 263), (3, 264), (4, 5), (5, 5), (6, 265), (7, 266), (8, 267), (9, 268), (10, 269)], 11, 48, [.int .u64 0, .int .u64 0, .int .u32 0, .int .u8 0, .int .u8 0, .int .u8 0, .int .u8 0, .nilFunc, .pointer none, .int .i32 0, .int .i32 0]⟩ := by kernel_rfl
theorem mixed : Try.prog.follows .mixedOrders = true := by kernel_rfl
end Go.Proofs.Ytbcdendfeegjfaa
