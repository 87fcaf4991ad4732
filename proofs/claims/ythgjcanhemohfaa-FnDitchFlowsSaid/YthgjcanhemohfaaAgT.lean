/-
  AG, part T: what the program says of its types, row by row, for simp. Conditions: none. Written by a program (gen_t.py).
-/
import Derived.Test.YthgjcanhemohfaaProg
import Derived.Test.YthgjcanhemohfaaAgQ
import Derived.KernelRfl
namespace Go.Proofs.Ythgjcanhemohfaa
open Go.AG
@[go_sem] theorem ti_2 : ti Try.prog 2 = ⟨true, .int .i64, 1, 8, [.int .i64 0]⟩ := by kernel_rfl
@[go_sem] theorem ti_3 : ti Try.prog 3 = ⟨true, .int .i64, 1, 8, [.int .i64 0]⟩ := by kernel_rfl
@[go_sem] theorem ti_4 : ti Try.prog 4 = ⟨true, .bool, 1, 1, [.bool false]⟩ := by kernel_rfl
@[go_sem] theorem ti_5 : ti Try.prog 5 = ⟨true, .int .u8, 1, 1, [.int .u8 0]⟩ := by kernel_rfl
@[go_sem] theorem ti_6 : ti Try.prog 6 = ⟨true, .int .u8, 1, 1, [.int .u8 0]⟩ := by kernel_rfl
@[go_sem] theorem ti_7 : ti Try.prog 7 = ⟨true, .struct [(0, 2), (1, 3), (2, 4), (3, 6)], 4, 24, [.int .i64 0, .int .i64 0, .bool false, .int .u8 0]⟩ := by kernel_rfl
@[go_sem] theorem ti_8 : ti Try.prog 8 = ⟨true, .struct [(0, 2), (1, 3), (2, 4), (3, 6)], 4, 24, [.int .i64 0, .int .i64 0, .bool false, .int .u8 0]⟩ := by kernel_rfl
@[go_sem] theorem ti_9 : ti Try.prog 9 = ⟨true, .string, 1, 16, [.string ⟨#[]⟩]⟩ := by kernel_rfl
@[go_sem] theorem ti_10 : ti Try.prog 10 = ⟨true, .string, 1, 16, [.string ⟨#[]⟩]⟩ := by kernel_rfl
@[go_sem] theorem ti_11 : ti Try.prog 11 = ⟨true, .string, 1, 16, [.string ⟨#[]⟩]⟩ := by kernel_rfl
@[go_sem] theorem ti_12 : ti Try.prog 12 = ⟨true, .int .u64, 1, 8, [.int .u64 0]⟩ := by kernel_rfl
@[go_sem] theorem ti_13 : ti Try.prog 13 = ⟨true, .struct [(0, 9), (1, 12)], 2, 24, [.string ⟨#[]⟩, .int .u64 0]⟩ := by kernel_rfl
@[go_sem] theorem ti_14 : ti Try.prog 14 = ⟨true, .struct [(0, 9), (1, 12)], 2, 24, [.string ⟨#[]⟩, .int .u64 0]⟩ := by kernel_rfl
@[go_sem] theorem ti_15 : ti Try.prog 15 = ⟨true, .pointer 186, 1, 8, [.pointer none]⟩ := by kernel_rfl
@[go_sem] theorem ti_16 : ti Try.prog 16 = ⟨true, .pointer 189, 1, 8, [.pointer none]⟩ := by kernel_rfl
@[go_sem] theorem ti_17 : ti Try.prog 17 = ⟨true, .pointer 199, 1, 8, [.pointer none]⟩ := by kernel_rfl
@[go_sem] theorem ti_18 : ti Try.prog 18 = ⟨true, .struct [(0, 17)], 1, 8, [.pointer none]⟩ := by kernel_rfl
@[go_sem] theorem ti_19 : ti Try.prog 19 = ⟨true, .struct [(0, 17)], 1, 8, [.pointer none]⟩ := by kernel_rfl
@[go_sem] theorem ti_21 : ti Try.prog 21 = ⟨true, .int .i32, 1, 4, [.int .i32 0]⟩ := by kernel_rfl
@[go_sem] theorem ti_22 : ti Try.prog 22 = ⟨true, .slice 5, 1, 24, [.slice none 0 0]⟩ := by kernel_rfl
@[go_sem] theorem ti_24 : ti Try.prog 24 = ⟨true, .slice 39, 1, 24, [.slice none 0 0]⟩ := by kernel_rfl
@[go_sem] theorem ti_25 : ti Try.prog 25 = ⟨true, .struct [(0, 2), (1, 24)], 2, 32, [.int .i64 0, .slice none 0 0]⟩ := by kernel_rfl
@[go_sem] theorem ti_26 : ti Try.prog 26 = ⟨true, .struct [(0, 2), (1, 24)], 2, 32, [.int .i64 0, .slice none 0 0]⟩ := by kernel_rfl
@[go_sem] theorem ti_29 : ti Try.prog 29 = ⟨true, .slice 2, 1, 24, [.slice none 0 0]⟩ := by kernel_rfl
@[go_sem] theorem ti_38 : ti Try.prog 38 = ⟨true, .struct [(0, 2), (1, 2), (2, 2)], 3, 24, [.int .i64 0, .int .i64 0, .int .i64 0]⟩ := by kernel_rfl
@[go_sem] theorem ti_39 : ti Try.prog 39 = ⟨true, .struct [(0, 2), (1, 2), (2, 2)], 3, 24, [.int .i64 0, .int .i64 0, .int .i64 0]⟩ := by kernel_rfl
@[go_sem] theorem ti_42 : ti Try.prog 42 = ⟨true, .struct [(0, 2), (1, 2), (2, 29)], 3, 40, [.int .i64 0, .int .i64 0, .slice none 0 0]⟩ := by kernel_rfl
@[go_sem] theorem ti_43 : ti Try.prog 43 = ⟨true, .struct [(0, 2), (1, 2), (2, 29)], 3, 40, [.int .i64 0, .int .i64 0, .slice none 0 0]⟩ := by kernel_rfl
@[go_sem] theorem ti_62 : ti Try.prog 62 = ⟨true, .slice 164, 1, 24, [.slice none 0 0]⟩ := by kernel_rfl
@[go_sem] theorem ti_65 : ti Try.prog 65 = ⟨true, .slice 79, 1, 24, [.slice none 0 0]⟩ := by kernel_rfl
@[go_sem] theorem ti_78 : ti Try.prog 78 = ⟨true, .struct [(0, 2), (1, 2), (2, 2)], 3, 24, [.int .i64 0, .int .i64 0, .int .i64 0]⟩ := by kernel_rfl
@[go_sem] theorem ti_79 : ti Try.prog 79 = ⟨true, .struct [(0, 2), (1, 2), (2, 2)], 3, 24, [.int .i64 0, .int .i64 0, .int .i64 0]⟩ := by kernel_rfl
@[go_sem] theorem ti_80 : ti Try.prog 80 = ⟨true, .pointer 141, 1, 8, [.pointer none]⟩ := by kernel_rfl
@[go_sem] theorem ti_84 : ti Try.prog 84 = ⟨true, .pointer 90, 1, 8, [.pointer none]⟩ := by kernel_rfl
@[go_sem] theorem ti_86 : ti Try.prog 86 = ⟨true, .pointer 26, 1, 8, [.pointer none]⟩ := by kernel_rfl
@[go_sem] theorem ti_87 : ti Try.prog 87 = ⟨true, .slice 4, 1, 24, [.slice none 0 0]⟩ := by kernel_rfl
@[go_sem] theorem ti_88 : ti Try.prog 88 = ⟨true, .slice 3, 1, 24, [.slice none 0 0]⟩ := by kernel_rfl
@[go_sem] theorem ti_89 : ti Try.prog 89 = ⟨true, .struct [(0, 87), (1, 88)], 2, 48, [.slice none 0 0, .slice none 0 0]⟩ := by kernel_rfl
@[go_sem] theorem ti_90 : ti Try.prog 90 = ⟨true, .struct [(0, 87), (1, 88)], 2, 48, [.slice none 0 0, .slice none 0 0]⟩ := by kernel_rfl
@[go_sem] theorem ti_104 : ti Try.prog 104 = ⟨true, .map 2 4, 1, 8, [.map none]⟩ := by kernel_rfl
@[go_sem] theorem ti_107 : ti Try.prog 107 = ⟨true, .pointer 43, 1, 8, [.pointer none]⟩ := by kernel_rfl
@[go_sem] theorem ti_139 : ti Try.prog 139 = ⟨true, .int .u64, 1, 8, [.int .u64 0]⟩ := by kernel_rfl
@[go_sem] theorem ti_140 : ti Try.prog 140 = ⟨true, .struct [(0, 22), (1, 3), (2, 139)], 3, 40, [.slice none 0 0, .int .i64 0, .int .u64 0]⟩ := by kernel_rfl
@[go_sem] theorem ti_141 : ti Try.prog 141 = ⟨true, .struct [(0, 22), (1, 3), (2, 139)], 3, 40, [.slice none 0 0, .int .i64 0, .int .u64 0]⟩ := by kernel_rfl
@[go_sem] theorem ti_147 : ti Try.prog 147 = ⟨true, .map 2 2, 1, 8, [.map none]⟩ := by kernel_rfl
@[go_sem] theorem ti_155 : ti Try.prog 155 = ⟨true, .array 2 2, 2, 16, [.int .i64 0, .int .i64 0]⟩ := by kernel_rfl
@[go_sem] theorem ti_156 : ti Try.prog 156 = ⟨true, .slice 155, 1, 24, [.slice none 0 0]⟩ := by kernel_rfl
@[go_sem] theorem ti_163 : ti Try.prog 163 = ⟨true, .struct [(0, 9), (1, 2), (2, 2)], 3, 32, [.string ⟨#[]⟩, .int .i64 0, .int .i64 0]⟩ := by kernel_rfl
@[go_sem] theorem ti_164 : ti Try.prog 164 = ⟨true, .struct [(0, 9), (1, 2), (2, 2)], 3, 32, [.string ⟨#[]⟩, .int .i64 0, .int .i64 0]⟩ := by kernel_rfl
@[go_sem] theorem ti_167 : ti Try.prog 167 = ⟨true, .pointer 164, 1, 8, [.pointer none]⟩ := by kernel_rfl
@[go_sem] theorem ti_168 : ti Try.prog 168 = ⟨true, .slice 9, 1, 24, [.slice none 0 0]⟩ := by kernel_rfl
@[go_sem] theorem ti_176 : ti Try.prog 176 = ⟨true, .pointer 79, 1, 8, [.pointer none]⟩ := by kernel_rfl
@[go_sem] theorem ti_177 : ti Try.prog 177 = ⟨true, .int .u64, 1, 8, [.int .u64 0]⟩ := by kernel_rfl
@[go_sem] theorem ti_185 : ti Try.prog 185 = ⟨true, .struct [(0, 17), (1, 17), (2, 17), (3, 9)], 4, 40, [.pointer none, .pointer none, .pointer none, .string ⟨#[]⟩]⟩ := by kernel_rfl
@[go_sem] theorem ti_186 : ti Try.prog 186 = ⟨true, .struct [(0, 17), (1, 17), (2, 17), (3, 9)], 4, 40, [.pointer none, .pointer none, .pointer none, .string ⟨#[]⟩]⟩ := by kernel_rfl
@[go_sem] theorem ti_187 : ti Try.prog 187 = ⟨true, .array 0 16, 0, 0, []⟩ := by kernel_rfl
@[go_sem] theorem ti_188 : ti Try.prog 188 = ⟨true, .struct [(0, 187)], 0, 0, []⟩ := by kernel_rfl
@[go_sem] theorem ti_189 : ti Try.prog 189 = ⟨true, .struct [(0, 187)], 0, 0, []⟩ := by kernel_rfl
@[go_sem] theorem ti_191 : ti Try.prog 191 = ⟨true, .int .u32, 1, 4, [.int .u32 0]⟩ := by kernel_rfl
@[go_sem] theorem ti_192 : ti Try.prog 192 = ⟨true, .int .u8, 1, 1, [.int .u8 0]⟩ := by kernel_rfl
@[go_sem] theorem ti_193 : ti Try.prog 193 = ⟨true, .int .u8, 1, 1, [.int .u8 0]⟩ := by kernel_rfl
@[go_sem] theorem ti_195 : ti Try.prog 195 = ⟨true, .pointer 5, 1, 8, [.pointer none]⟩ := by kernel_rfl
@[go_sem] theorem ti_196 : ti Try.prog 196 = ⟨true, .int .i32, 1, 4, [.int .i32 0]⟩ := by kernel_rfl
@[go_sem] theorem ti_197 : ti Try.prog 197 = ⟨true, .int .i32, 1, 4, [.int .i32 0]⟩ := by kernel_rfl
@[go_sem] theorem ti_198 : ti Try.prog 198 = ⟨true, .struct [(0, 12), (1, 12), (2, 191), (3, 192), (4, 5), (5, 5), (6, 193), (7, 194), (8, 195), (9, 196), (10, 197)], 11, 48, [.int .u64 0, .int .u64 0, .int .u32 0, .int .u8 0, .int .u8 0, .int .u8 0, .int .u8 0, .nilFunc, .pointer none, .int .i32 0, .int .i32 0]⟩ := by kernel_rfl
@[go_sem] theorem ti_199 : ti Try.prog 199 = ⟨true, .struct [(0, 12), (1, 12), (2, 191), (3, 192), (4, 5), (5, 5), (6, 193), (7, 194), (8, 195), (9, 196), (10, 197)], 11, 48, [.int .u64 0, .int .u64 0, .int .u32 0, .int .u8 0, .int .u8 0, .int .u8 0, .int .u8 0, .nilFunc, .pointer none, .int .i32 0, .int .i32 0]⟩ := by kernel_rfl
@[go_sem] theorem zo_2 : zeroOf Try.prog 2 = some (.int .i64 0) := by kernel_rfl
@[go_sem] theorem zo_3 : zeroOf Try.prog 3 = some (.int .i64 0) := by kernel_rfl
@[go_sem] theorem zo_4 : zeroOf Try.prog 4 = some (.bool false) := by kernel_rfl
@[go_sem] theorem zo_5 : zeroOf Try.prog 5 = some (.int .u8 0) := by kernel_rfl
@[go_sem] theorem zo_6 : zeroOf Try.prog 6 = some (.int .u8 0) := by kernel_rfl
@[go_sem] theorem zo_12 : zeroOf Try.prog 12 = some (.int .u64 0) := by kernel_rfl
@[go_sem] theorem zo_21 : zeroOf Try.prog 21 = some (.int .i32 0) := by kernel_rfl
@[go_sem] theorem zo_139 : zeroOf Try.prog 139 = some (.int .u64 0) := by kernel_rfl
@[go_sem] theorem zo_177 : zeroOf Try.prog 177 = some (.int .u64 0) := by kernel_rfl
@[go_sem] theorem zo_191 : zeroOf Try.prog 191 = some (.int .u32 0) := by kernel_rfl
@[go_sem] theorem zo_192 : zeroOf Try.prog 192 = some (.int .u8 0) := by kernel_rfl
@[go_sem] theorem zo_193 : zeroOf Try.prog 193 = some (.int .u8 0) := by kernel_rfl
@[go_sem] theorem zo_196 : zeroOf Try.prog 196 = some (.int .i32 0) := by kernel_rfl
@[go_sem] theorem zo_197 : zeroOf Try.prog 197 = some (.int .i32 0) := by kernel_rfl
@[go_sem] theorem eqi_38 : eqInfo Try.prog 38 = some [(0, 2), (1, 2), (2, 2)] := by kernel_rfl
@[go_sem] theorem eqi_39 : eqInfo Try.prog 39 = some [(0, 2), (1, 2), (2, 2)] := by kernel_rfl
@[go_sem] theorem eqi_78 : eqInfo Try.prog 78 = some [(0, 2), (1, 2), (2, 2)] := by kernel_rfl
@[go_sem] theorem eqi_79 : eqInfo Try.prog 79 = some [(0, 2), (1, 2), (2, 2)] := by kernel_rfl
@[go_sem] theorem eqi_163 : eqInfo Try.prog 163 = some [(0, 9), (1, 2), (2, 2)] := by kernel_rfl
@[go_sem] theorem eqi_164 : eqInfo Try.prog 164 = some [(0, 9), (1, 2), (2, 2)] := by kernel_rfl
theorem mixed : Try.prog.follows .mixedOrders = true := by kernel_rfl
end Go.Proofs.Ythgjcanhemohfaa
