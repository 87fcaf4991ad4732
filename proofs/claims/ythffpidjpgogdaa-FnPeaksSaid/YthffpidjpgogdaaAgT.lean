/-
  AG, part T: what the program says of its types, row by row, for simp. Conditions: none. Written by a program (gen_t.py).
-/
import Derived.Test.YthffpidjpgogdaaProg
import Derived.Test.YthffpidjpgogdaaAgQ
import Derived.KernelRfl
namespace Go.Proofs.Ythffpidjpgogdaa
open Go.AG
@[go_sem] theorem ti_2 : ti Try.prog 2 = ⟨true, .int .i64, 1, 8, [.int .i64 0]⟩ := by kernel_rfl
@[go_sem] theorem ti_3 : ti Try.prog 3 = ⟨true, .int .i64, 1, 8, [.int .i64 0]⟩ := by kernel_rfl
@[go_sem] theorem ti_4 : ti Try.prog 4 = ⟨true, .bool, 1, 1, [.bool false]⟩ := by kernel_rfl
@[go_sem] theorem ti_5 : ti Try.prog 5 = ⟨true, .int .u8, 1, 1, [.int .u8 0]⟩ := by kernel_rfl
@[go_sem] theorem ti_6 : ti Try.prog 6 = ⟨true, .int .u8, 1, 1, [.int .u8 0]⟩ := by kernel_rfl
@[go_sem] theorem ti_7 : ti Try.prog 7 = ⟨true, .struct [(0, 2), (1, 3), (2, 4), (3, 6)], 4, 24, [.int .i64 0, .int .i64 0, .bool false, .int .u8 0]⟩ := by kernel_rfl
@[go_sem] theorem ti_8 : ti Try.prog 8 = ⟨true, .struct [(0, 2), (1, 3), (2, 4), (3, 6)], 4, 24, [.int .i64 0, .int .i64 0, .bool false, .int .u8 0]⟩ := by kernel_rfl
@[go_sem] theorem ti_9 : ti Try.prog 9 = ⟨true, .string, 1, 16, [.string ⟨#[]⟩]⟩ := by kernel_rfl
@[go_sem] theorem ti_10 : ti Try.prog 10 = ⟨true, .string, 1, 16, [.string ⟨#[]⟩]⟩ := by kernel_rfl
@[go_sem] theorem ti_11 : ti Try.prog 11 = ⟨true, .string, 1, 16, [.string ⟨#[]⟩]⟩ := by kernel_rfl
@[go_sem] theorem ti_12 : ti Try.prog 12 = ⟨true, .int .u64, 1, 8, [.int .u64 0]⟩ := by kernel_rfl
@[go_sem] theorem ti_13 : ti Try.prog 13 = ⟨true, .struct [(0, 9), (1, 12)], 2, 24, [.string ⟨#[]⟩, .int .u64 0]⟩ := by kernel_rfl
@[go_sem] theorem ti_14 : ti Try.prog 14 = ⟨true, .struct [(0, 9), (1, 12)], 2, 24, [.string ⟨#[]⟩, .int .u64 0]⟩ := by kernel_rfl
@[go_sem] theorem ti_15 : ti Try.prog 15 = ⟨true, .pointer 259, 1, 8, [.pointer none]⟩ := by kernel_rfl
@[go_sem] theorem ti_16 : ti Try.prog 16 = ⟨true, .pointer 262, 1, 8, [.pointer none]⟩ := by kernel_rfl
@[go_sem] theorem ti_17 : ti Try.prog 17 = ⟨true, .pointer 271, 1, 8, [.pointer none]⟩ := by kernel_rfl
@[go_sem] theorem ti_18 : ti Try.prog 18 = ⟨true, .struct [(0, 17)], 1, 8, [.pointer none]⟩ := by kernel_rfl
@[go_sem] theorem ti_19 : ti Try.prog 19 = ⟨true, .struct [(0, 17)], 1, 8, [.pointer none]⟩ := by kernel_rfl
@[go_sem] theorem ti_21 : ti Try.prog 21 = ⟨true, .int .i32, 1, 4, [.int .i32 0]⟩ := by kernel_rfl
@[go_sem] theorem ti_22 : ti Try.prog 22 = ⟨true, .slice 5, 1, 24, [.slice none 0 0]⟩ := by kernel_rfl
@[go_sem] theorem ti_24 : ti Try.prog 24 = ⟨true, .slice 2, 1, 24, [.slice none 0 0]⟩ := by kernel_rfl
@[go_sem] theorem ti_25 : ti Try.prog 25 = ⟨true, .struct [(0, 24), (1, 24)], 2, 48, [.slice none 0 0, .slice none 0 0]⟩ := by kernel_rfl
@[go_sem] theorem ti_26 : ti Try.prog 26 = ⟨true, .struct [(0, 24), (1, 24)], 2, 48, [.slice none 0 0, .slice none 0 0]⟩ := by kernel_rfl
@[go_sem] theorem ti_34 : ti Try.prog 34 = ⟨true, .struct [(0, 2), (1, 2)], 2, 16, [.int .i64 0, .int .i64 0]⟩ := by kernel_rfl
@[go_sem] theorem ti_35 : ti Try.prog 35 = ⟨true, .struct [(0, 2), (1, 2)], 2, 16, [.int .i64 0, .int .i64 0]⟩ := by kernel_rfl
@[go_sem] theorem ti_39 : ti Try.prog 39 = ⟨true, .struct [(0, 2), (1, 2)], 2, 16, [.int .i64 0, .int .i64 0]⟩ := by kernel_rfl
@[go_sem] theorem ti_40 : ti Try.prog 40 = ⟨true, .struct [(0, 2), (1, 2)], 2, 16, [.int .i64 0, .int .i64 0]⟩ := by kernel_rfl
@[go_sem] theorem ti_44 : ti Try.prog 44 = ⟨true, .slice 40, 1, 24, [.slice none 0 0]⟩ := by kernel_rfl
@[go_sem] theorem ti_51 : ti Try.prog 51 = ⟨true, .slice 190, 1, 24, [.slice none 0 0]⟩ := by kernel_rfl
@[go_sem] theorem ti_56 : ti Try.prog 56 = ⟨true, .struct [(0, 2), (1, 2), (2, 2)], 3, 24, [.int .i64 0, .int .i64 0, .int .i64 0]⟩ := by kernel_rfl
@[go_sem] theorem ti_57 : ti Try.prog 57 = ⟨true, .struct [(0, 2), (1, 2), (2, 2)], 3, 24, [.int .i64 0, .int .i64 0, .int .i64 0]⟩ := by kernel_rfl
@[go_sem] theorem ti_61 : ti Try.prog 61 = ⟨true, .slice 57, 1, 24, [.slice none 0 0]⟩ := by kernel_rfl
@[go_sem] theorem ti_65 : ti Try.prog 65 = ⟨true, .slice 199, 1, 24, [.slice none 0 0]⟩ := by kernel_rfl
@[go_sem] theorem ti_68 : ti Try.prog 68 = ⟨true, .slice 84, 1, 24, [.slice none 0 0]⟩ := by kernel_rfl
@[go_sem] theorem ti_83 : ti Try.prog 83 = ⟨true, .struct [(0, 2), (1, 2), (2, 2)], 3, 24, [.int .i64 0, .int .i64 0, .int .i64 0]⟩ := by kernel_rfl
@[go_sem] theorem ti_84 : ti Try.prog 84 = ⟨true, .struct [(0, 2), (1, 2), (2, 2)], 3, 24, [.int .i64 0, .int .i64 0, .int .i64 0]⟩ := by kernel_rfl
@[go_sem] theorem ti_86 : ti Try.prog 86 = ⟨true, .slice 100, 1, 24, [.slice none 0 0]⟩ := by kernel_rfl
@[go_sem] theorem ti_99 : ti Try.prog 99 = ⟨true, .struct [(0, 2), (1, 2), (2, 2), (3, 2), (4, 2)], 5, 40, [.int .i64 0, .int .i64 0, .int .i64 0, .int .i64 0, .int .i64 0]⟩ := by kernel_rfl
@[go_sem] theorem ti_100 : ti Try.prog 100 = ⟨true, .struct [(0, 2), (1, 2), (2, 2), (3, 2), (4, 2)], 5, 40, [.int .i64 0, .int .i64 0, .int .i64 0, .int .i64 0, .int .i64 0]⟩ := by kernel_rfl
@[go_sem] theorem ti_101 : ti Try.prog 101 = ⟨true, .slice 221, 1, 24, [.slice none 0 0]⟩ := by kernel_rfl
@[go_sem] theorem ti_104 : ti Try.prog 104 = ⟨true, .slice 118, 1, 24, [.slice none 0 0]⟩ := by kernel_rfl
@[go_sem] theorem ti_117 : ti Try.prog 117 = ⟨true, .struct [(0, 2), (1, 2), (2, 2)], 3, 24, [.int .i64 0, .int .i64 0, .int .i64 0]⟩ := by kernel_rfl
@[go_sem] theorem ti_118 : ti Try.prog 118 = ⟨true, .struct [(0, 2), (1, 2), (2, 2)], 3, 24, [.int .i64 0, .int .i64 0, .int .i64 0]⟩ := by kernel_rfl
@[go_sem] theorem ti_119 : ti Try.prog 119 = ⟨true, .pointer 182, 1, 8, [.pointer none]⟩ := by kernel_rfl
@[go_sem] theorem ti_127 : ti Try.prog 127 = ⟨true, .pointer 26, 1, 8, [.pointer none]⟩ := by kernel_rfl
@[go_sem] theorem ti_166 : ti Try.prog 166 = ⟨true, .pointer 100, 1, 8, [.pointer none]⟩ := by kernel_rfl
@[go_sem] theorem ti_180 : ti Try.prog 180 = ⟨true, .int .u64, 1, 8, [.int .u64 0]⟩ := by kernel_rfl
@[go_sem] theorem ti_181 : ti Try.prog 181 = ⟨true, .struct [(0, 22), (1, 3), (2, 180)], 3, 40, [.slice none 0 0, .int .i64 0, .int .u64 0]⟩ := by kernel_rfl
@[go_sem] theorem ti_182 : ti Try.prog 182 = ⟨true, .struct [(0, 22), (1, 3), (2, 180)], 3, 40, [.slice none 0 0, .int .i64 0, .int .u64 0]⟩ := by kernel_rfl
@[go_sem] theorem ti_189 : ti Try.prog 189 = ⟨true, .struct [(0, 2), (1, 4)], 2, 16, [.int .i64 0, .bool false]⟩ := by kernel_rfl
@[go_sem] theorem ti_190 : ti Try.prog 190 = ⟨true, .struct [(0, 2), (1, 4)], 2, 16, [.int .i64 0, .bool false]⟩ := by kernel_rfl
@[go_sem] theorem ti_198 : ti Try.prog 198 = ⟨true, .struct [(0, 9), (1, 2), (2, 2)], 3, 32, [.string ⟨#[]⟩, .int .i64 0, .int .i64 0]⟩ := by kernel_rfl
@[go_sem] theorem ti_199 : ti Try.prog 199 = ⟨true, .struct [(0, 9), (1, 2), (2, 2)], 3, 32, [.string ⟨#[]⟩, .int .i64 0, .int .i64 0]⟩ := by kernel_rfl
@[go_sem] theorem ti_202 : ti Try.prog 202 = ⟨true, .pointer 199, 1, 8, [.pointer none]⟩ := by kernel_rfl
@[go_sem] theorem ti_203 : ti Try.prog 203 = ⟨true, .slice 9, 1, 24, [.slice none 0 0]⟩ := by kernel_rfl
@[go_sem] theorem ti_211 : ti Try.prog 211 = ⟨true, .pointer 84, 1, 8, [.pointer none]⟩ := by kernel_rfl
@[go_sem] theorem ti_220 : ti Try.prog 220 = ⟨true, .struct [(0, 2), (1, 2), (2, 2), (3, 2)], 4, 32, [.int .i64 0, .int .i64 0, .int .i64 0, .int .i64 0]⟩ := by kernel_rfl
@[go_sem] theorem ti_221 : ti Try.prog 221 = ⟨true, .struct [(0, 2), (1, 2), (2, 2), (3, 2)], 4, 32, [.int .i64 0, .int .i64 0, .int .i64 0, .int .i64 0]⟩ := by kernel_rfl
@[go_sem] theorem ti_224 : ti Try.prog 224 = ⟨true, .pointer 221, 1, 8, [.pointer none]⟩ := by kernel_rfl
@[go_sem] theorem ti_227 : ti Try.prog 227 = ⟨true, .slice 3, 1, 24, [.slice none 0 0]⟩ := by kernel_rfl
@[go_sem] theorem ti_232 : ti Try.prog 232 = ⟨true, .pointer 118, 1, 8, [.pointer none]⟩ := by kernel_rfl
@[go_sem] theorem ti_233 : ti Try.prog 233 = ⟨true, .int .u64, 1, 8, [.int .u64 0]⟩ := by kernel_rfl
@[go_sem] theorem ti_241 : ti Try.prog 241 = ⟨true, .int .u64, 1, 8, [.int .u64 0]⟩ := by kernel_rfl
@[go_sem] theorem ti_242 : ti Try.prog 242 = ⟨true, .struct [(0, 17), (1, 240), (2, 241)], 3, 24, [.pointer none, .pointer none, .int .u64 0]⟩ := by kernel_rfl
@[go_sem] theorem ti_243 : ti Try.prog 243 = ⟨true, .struct [(0, 17), (1, 240), (2, 241)], 3, 24, [.pointer none, .pointer none, .int .u64 0]⟩ := by kernel_rfl
@[go_sem] theorem ti_248 : ti Try.prog 248 = ⟨true, .struct [(0, 229), (1, 245)], 2, 16, [.nilFunc, .nilFunc]⟩ := by kernel_rfl
@[go_sem] theorem ti_249 : ti Try.prog 249 = ⟨true, .struct [(0, 229), (1, 245)], 2, 16, [.nilFunc, .nilFunc]⟩ := by kernel_rfl
@[go_sem] theorem ti_252 : ti Try.prog 252 = ⟨true, .struct [(0, 17)], 1, 8, [.pointer none]⟩ := by kernel_rfl
@[go_sem] theorem ti_253 : ti Try.prog 253 = ⟨true, .struct [(0, 17)], 1, 8, [.pointer none]⟩ := by kernel_rfl
@[go_sem] theorem ti_254 : ti Try.prog 254 = ⟨true, .pointer 273, 1, 8, [.pointer none]⟩ := by kernel_rfl
@[go_sem] theorem ti_258 : ti Try.prog 258 = ⟨true, .struct [(0, 17), (1, 17), (2, 17), (3, 9)], 4, 40, [.pointer none, .pointer none, .pointer none, .string ⟨#[]⟩]⟩ := by kernel_rfl
@[go_sem] theorem ti_259 : ti Try.prog 259 = ⟨true, .struct [(0, 17), (1, 17), (2, 17), (3, 9)], 4, 40, [.pointer none, .pointer none, .pointer none, .string ⟨#[]⟩]⟩ := by kernel_rfl
@[go_sem] theorem ti_260 : ti Try.prog 260 = ⟨true, .array 0 16, 0, 0, []⟩ := by kernel_rfl
@[go_sem] theorem ti_261 : ti Try.prog 261 = ⟨true, .struct [(0, 260)], 0, 0, []⟩ := by kernel_rfl
@[go_sem] theorem ti_262 : ti Try.prog 262 = ⟨true, .struct [(0, 260)], 0, 0, []⟩ := by kernel_rfl
@[go_sem] theorem ti_263 : ti Try.prog 263 = ⟨true, .int .u32, 1, 4, [.int .u32 0]⟩ := by kernel_rfl
@[go_sem] theorem ti_264 : ti Try.prog 264 = ⟨true, .int .u8, 1, 1, [.int .u8 0]⟩ := by kernel_rfl
@[go_sem] theorem ti_265 : ti Try.prog 265 = ⟨true, .int .u8, 1, 1, [.int .u8 0]⟩ := by kernel_rfl
@[go_sem] theorem ti_267 : ti Try.prog 267 = ⟨true, .pointer 5, 1, 8, [.pointer none]⟩ := by kernel_rfl
@[go_sem] theorem ti_268 : ti Try.prog 268 = ⟨true, .int .i32, 1, 4, [.int .i32 0]⟩ := by kernel_rfl
@[go_sem] theorem ti_269 : ti Try.prog 269 = ⟨true, .int .i32, 1, 4, [.int .i32 0]⟩ := by kernel_rfl
@[go_sem] theorem ti_270 : ti Try.prog 270 = ⟨true, .struct [(0, 12), (1, 12), (2, 263), (3, 264), (4, 5), (5, 5), (6, 265), (7, 266), (8, 267), (9, 268), (10, 269)], 11, 48, [.int .u64 0, .int .u64 0, .int .u32 0, .int .u8 0, .int .u8 0, .int .u8 0, .int .u8 0, .nilFunc, .pointer none, .int .i32 0, .int .i32 0]⟩ := by kernel_rfl
@[go_sem] theorem ti_271 : ti Try.prog 271 = ⟨true, .struct [(0, 12), (1, 12), (2, 263), (3, 264), (4, 5), (5, 5), (6, 265), (7, 266), (8, 267), (9, 268), (10, 269)], 11, 48, [.int .u64 0, .int .u64 0, .int .u32 0, .int .u8 0, .int .u8 0, .int .u8 0, .int .u8 0, .nilFunc, .pointer none, .int .i32 0, .int .i32 0]⟩ := by kernel_rfl
@[go_sem] theorem ti_272 : ti Try.prog 272 = ⟨true, .struct [(0, 9), (1, 265)], 2, 24, [.string ⟨#[]⟩, .int .u8 0]⟩ := by kernel_rfl
@[go_sem] theorem ti_273 : ti Try.prog 273 = ⟨true, .struct [(0, 9), (1, 265)], 2, 24, [.string ⟨#[]⟩, .int .u8 0]⟩ := by kernel_rfl
@[go_sem] theorem eqi_34 : eqInfo Try.prog 34 = some [(0, 2), (1, 2)] := by kernel_rfl
@[go_sem] theorem eqi_35 : eqInfo Try.prog 35 = some [(0, 2), (1, 2)] := by kernel_rfl
@[go_sem] theorem eqi_39 : eqInfo Try.prog 39 = some [(0, 2), (1, 2)] := by kernel_rfl
@[go_sem] theorem eqi_40 : eqInfo Try.prog 40 = some [(0, 2), (1, 2)] := by kernel_rfl
@[go_sem] theorem eqi_56 : eqInfo Try.prog 56 = some [(0, 2), (1, 2), (2, 2)] := by kernel_rfl
@[go_sem] theorem eqi_57 : eqInfo Try.prog 57 = some [(0, 2), (1, 2), (2, 2)] := by kernel_rfl
@[go_sem] theorem eqi_83 : eqInfo Try.prog 83 = some [(0, 2), (1, 2), (2, 2)] := by kernel_rfl
@[go_sem] theorem eqi_84 : eqInfo Try.prog 84 = some [(0, 2), (1, 2), (2, 2)] := by kernel_rfl
@[go_sem] theorem eqi_99 : eqInfo Try.prog 99 = some [(0, 2), (1, 2), (2, 2), (3, 2), (4, 2)] := by kernel_rfl
@[go_sem] theorem eqi_100 : eqInfo Try.prog 100 = some [(0, 2), (1, 2), (2, 2), (3, 2), (4, 2)] := by kernel_rfl
@[go_sem] theorem eqi_117 : eqInfo Try.prog 117 = some [(0, 2), (1, 2), (2, 2)] := by kernel_rfl
@[go_sem] theorem eqi_118 : eqInfo Try.prog 118 = some [(0, 2), (1, 2), (2, 2)] := by kernel_rfl
@[go_sem] theorem eqi_189 : eqInfo Try.prog 189 = some [(0, 2), (1, 4)] := by kernel_rfl
@[go_sem] theorem eqi_190 : eqInfo Try.prog 190 = some [(0, 2), (1, 4)] := by kernel_rfl
@[go_sem] theorem eqi_198 : eqInfo Try.prog 198 = some [(0, 9), (1, 2), (2, 2)] := by kernel_rfl
@[go_sem] theorem eqi_199 : eqInfo Try.prog 199 = some [(0, 9), (1, 2), (2, 2)] := by kernel_rfl
@[go_sem] theorem eqi_220 : eqInfo Try.prog 220 = some [(0, 2), (1, 2), (2, 2), (3, 2)] := by kernel_rfl
@[go_sem] theorem eqi_221 : eqInfo Try.prog 221 = some [(0, 2), (1, 2), (2, 2), (3, 2)] := by kernel_rfl
theorem mixed : Try.prog.follows .mixedOrders = true := by kernel_rfl
end Go.Proofs.Ythffpidjpgogdaa
