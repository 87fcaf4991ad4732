/-
  AG, part T: what the program says of its types, row by row, for simp. Conditions: none. Written by a program (gen_t.py).
-/
import Derived.Test.YthnphcinjchloaaProg
import Derived.Test.YthnphcinjchloaaAgQ
import Derived.KernelRfl
namespace Go.Proofs.Ythnphcinjchloaa
open Go.AG
@[go_sem] theorem ti_2 : ti Try.prog 2 = ⟨true, .int .i64, 1, 8, [.int .i64 0]⟩ := by kernel_rfl
@[go_sem] theorem ti_3 : ti Try.prog 3 = ⟨true, .int .i64, 1, 8, [.int .i64 0]⟩ := by kernel_rfl
@[go_sem] theorem ti_4 : ti Try.prog 4 = ⟨true, .bool, 1, 1, [.bool false]⟩ := by kernel_rfl
@[go_sem] theorem ti_5 : ti Try.prog 5 = ⟨true, .int .u8, 1, 1, [.int .u8 0]⟩ := by kernel_rfl
@[go_sem] theorem ti_6 : ti Try.prog 6 = ⟨true, .int .u8, 1, 1, [.int .u8 0]⟩ := by kernel_rfl
@[go_sem] theorem ti_7 : ti Try.prog 7 = ⟨true, .struct [(0, 2), (1, 3), (2, 4), (3, 6)], 4, 24, [.int .i64 0, .int .i64 0, .bool false, .int .u8 0]⟩ := by kernel_rfl
@[go_sem] theorem ti_8 : ti Try.prog 8 = ⟨true, .struct [(0, 2), (1, 3), (2, 4), (3, 6)], 4, 24, [.int .i64 0, .int .i64 0, .bool false, .int .u8 0]⟩ := by kernel_rfl
@[go_sem] theorem ti_9 : ti Try.prog 9 = ⟨true, .string, 1, 16, [.string ⟨#[]⟩]⟩ := by kernel_rfl
@[go_sem] theorem ti_10 : ti Try.prog 10 = ⟨true, .string, 1, 16, [.string ⟨#[]⟩]⟩ := by kernel_rfl
@[go_sem] theorem ti_11 : ti Try.prog 11 = ⟨true, .string, 1, 16, [.string ⟨#[]⟩]⟩ := by kernel_rfl
@[go_sem] theorem ti_12 : ti Try.prog 12 = ⟨true, .int .u64, 1, 8, [.int .u64 0]⟩ := by kernel_rfl
@[go_sem] theorem ti_13 : ti Try.prog 13 = ⟨true, .struct [(0, 9), (1, 12)], 2, 24, [.string ⟨#[]⟩, .int .u64 0]⟩ := by kernel_rfl
@[go_sem] theorem ti_14 : ti Try.prog 14 = ⟨true, .struct [(0, 9), (1, 12)], 2, 24, [.string ⟨#[]⟩, .int .u64 0]⟩ := by kernel_rfl
@[go_sem] theorem ti_15 : ti Try.prog 15 = ⟨true, .pointer 179, 1, 8, [.pointer none]⟩ := by kernel_rfl
@[go_sem] theorem ti_16 : ti Try.prog 16 = ⟨true, .pointer 182, 1, 8, [.pointer none]⟩ := by kernel_rfl
@[go_sem] theorem ti_17 : ti Try.prog 17 = ⟨true, .pointer 190, 1, 8, [.pointer none]⟩ := by kernel_rfl
@[go_sem] theorem ti_18 : ti Try.prog 18 = ⟨true, .struct [(0, 17)], 1, 8, [.pointer none]⟩ := by kernel_rfl
@[go_sem] theorem ti_19 : ti Try.prog 19 = ⟨true, .struct [(0, 17)], 1, 8, [.pointer none]⟩ := by kernel_rfl
@[go_sem] theorem ti_21 : ti Try.prog 21 = ⟨true, .int .i32, 1, 4, [.int .i32 0]⟩ := by kernel_rfl
@[go_sem] theorem ti_22 : ti Try.prog 22 = ⟨true, .slice 2, 1, 24, [.slice none 0 0]⟩ := by kernel_rfl
@[go_sem] theorem ti_29 : ti Try.prog 29 = ⟨true, .slice 5, 1, 24, [.slice none 0 0]⟩ := by kernel_rfl
@[go_sem] theorem ti_31 : ti Try.prog 31 = ⟨true, .struct [(0, 2), (1, 2)], 2, 16, [.int .i64 0, .int .i64 0]⟩ := by kernel_rfl
@[go_sem] theorem ti_32 : ti Try.prog 32 = ⟨true, .struct [(0, 2), (1, 2)], 2, 16, [.int .i64 0, .int .i64 0]⟩ := by kernel_rfl
@[go_sem] theorem ti_39 : ti Try.prog 39 = ⟨true, .slice 49, 1, 24, [.slice none 0 0]⟩ := by kernel_rfl
@[go_sem] theorem ti_48 : ti Try.prog 48 = ⟨true, .struct [(0, 4), (1, 2), (2, 2)], 3, 24, [.bool false, .int .i64 0, .int .i64 0]⟩ := by kernel_rfl
@[go_sem] theorem ti_49 : ti Try.prog 49 = ⟨true, .struct [(0, 4), (1, 2), (2, 2)], 3, 24, [.bool false, .int .i64 0, .int .i64 0]⟩ := by kernel_rfl
@[go_sem] theorem ti_50 : ti Try.prog 50 = ⟨true, .slice 4, 1, 24, [.slice none 0 0]⟩ := by kernel_rfl
@[go_sem] theorem ti_57 : ti Try.prog 57 = ⟨true, .struct [(0, 2), (1, 2)], 2, 16, [.int .i64 0, .int .i64 0]⟩ := by kernel_rfl
@[go_sem] theorem ti_58 : ti Try.prog 58 = ⟨true, .struct [(0, 2), (1, 2)], 2, 16, [.int .i64 0, .int .i64 0]⟩ := by kernel_rfl
@[go_sem] theorem ti_64 : ti Try.prog 64 = ⟨true, .slice 146, 1, 24, [.slice none 0 0]⟩ := by kernel_rfl
@[go_sem] theorem ti_67 : ti Try.prog 67 = ⟨true, .slice 81, 1, 24, [.slice none 0 0]⟩ := by kernel_rfl
@[go_sem] theorem ti_80 : ti Try.prog 80 = ⟨true, .struct [(0, 2), (1, 2), (2, 2)], 3, 24, [.int .i64 0, .int .i64 0, .int .i64 0]⟩ := by kernel_rfl
@[go_sem] theorem ti_81 : ti Try.prog 81 = ⟨true, .struct [(0, 2), (1, 2), (2, 2)], 3, 24, [.int .i64 0, .int .i64 0, .int .i64 0]⟩ := by kernel_rfl
@[go_sem] theorem ti_83 : ti Try.prog 83 = ⟨true, .int .u64, 1, 8, [.int .u64 0]⟩ := by kernel_rfl
@[go_sem] theorem ti_85 : ti Try.prog 85 = ⟨true, .slice 22, 1, 24, [.slice none 0 0]⟩ := by kernel_rfl
@[go_sem] theorem ti_88 : ti Try.prog 88 = ⟨true, .pointer 129, 1, 8, [.pointer none]⟩ := by kernel_rfl
@[go_sem] theorem ti_127 : ti Try.prog 127 = ⟨true, .int .u64, 1, 8, [.int .u64 0]⟩ := by kernel_rfl
@[go_sem] theorem ti_128 : ti Try.prog 128 = ⟨true, .struct [(0, 29), (1, 3), (2, 127)], 3, 40, [.slice none 0 0, .int .i64 0, .int .u64 0]⟩ := by kernel_rfl
@[go_sem] theorem ti_129 : ti Try.prog 129 = ⟨true, .struct [(0, 29), (1, 3), (2, 127)], 3, 40, [.slice none 0 0, .int .i64 0, .int .u64 0]⟩ := by kernel_rfl
@[go_sem] theorem ti_132 : ti Try.prog 132 = ⟨true, .int .u64, 1, 8, [.int .u64 0]⟩ := by kernel_rfl
@[go_sem] theorem ti_133 : ti Try.prog 133 = ⟨true, .struct [(0, 17), (1, 131), (2, 132)], 3, 24, [.pointer none, .pointer none, .int .u64 0]⟩ := by kernel_rfl
@[go_sem] theorem ti_134 : ti Try.prog 134 = ⟨true, .struct [(0, 17), (1, 131), (2, 132)], 3, 24, [.pointer none, .pointer none, .int .u64 0]⟩ := by kernel_rfl
@[go_sem] theorem ti_139 : ti Try.prog 139 = ⟨true, .struct [(0, 105), (1, 136)], 2, 16, [.nilFunc, .nilFunc]⟩ := by kernel_rfl
@[go_sem] theorem ti_140 : ti Try.prog 140 = ⟨true, .struct [(0, 105), (1, 136)], 2, 16, [.nilFunc, .nilFunc]⟩ := by kernel_rfl
@[go_sem] theorem ti_144 : ti Try.prog 144 = ⟨true, .slice 3, 1, 24, [.slice none 0 0]⟩ := by kernel_rfl
@[go_sem] theorem ti_145 : ti Try.prog 145 = ⟨true, .struct [(0, 2), (1, 2), (2, 2), (3, 2)], 4, 32, [.int .i64 0, .int .i64 0, .int .i64 0, .int .i64 0]⟩ := by kernel_rfl
@[go_sem] theorem ti_146 : ti Try.prog 146 = ⟨true, .struct [(0, 2), (1, 2), (2, 2), (3, 2)], 4, 32, [.int .i64 0, .int .i64 0, .int .i64 0, .int .i64 0]⟩ := by kernel_rfl
@[go_sem] theorem ti_149 : ti Try.prog 149 = ⟨true, .pointer 146, 1, 8, [.pointer none]⟩ := by kernel_rfl
@[go_sem] theorem ti_153 : ti Try.prog 153 = ⟨true, .pointer 81, 1, 8, [.pointer none]⟩ := by kernel_rfl
@[go_sem] theorem ti_154 : ti Try.prog 154 = ⟨true, .struct [(0, 17)], 1, 8, [.pointer none]⟩ := by kernel_rfl
@[go_sem] theorem ti_155 : ti Try.prog 155 = ⟨true, .struct [(0, 17)], 1, 8, [.pointer none]⟩ := by kernel_rfl
@[go_sem] theorem ti_156 : ti Try.prog 156 = ⟨true, .pointer 192, 1, 8, [.pointer none]⟩ := by kernel_rfl
@[go_sem] theorem ti_159 : ti Try.prog 159 = ⟨true, .int .u32, 1, 4, [.int .u32 0]⟩ := by kernel_rfl
@[go_sem] theorem ti_161 : ti Try.prog 161 = ⟨true, .int .i64, 1, 8, [.int .i64 0]⟩ := by kernel_rfl
@[go_sem] theorem ti_168 : ti Try.prog 168 = ⟨true, .int .u64, 1, 8, [.int .u64 0]⟩ := by kernel_rfl
@[go_sem] theorem ti_172 : ti Try.prog 172 = ⟨true, .pointer 3, 1, 8, [.pointer none]⟩ := by kernel_rfl
@[go_sem] theorem ti_174 : ti Try.prog 174 = ⟨true, .pointer 168, 1, 8, [.pointer none]⟩ := by kernel_rfl
@[go_sem] theorem ti_178 : ti Try.prog 178 = ⟨true, .struct [(0, 17), (1, 17), (2, 17), (3, 9)], 4, 40, [.pointer none, .pointer none, .pointer none, .string ⟨#[]⟩]⟩ := by kernel_rfl
@[go_sem] theorem ti_179 : ti Try.prog 179 = ⟨true, .struct [(0, 17), (1, 17), (2, 17), (3, 9)], 4, 40, [.pointer none, .pointer none, .pointer none, .string ⟨#[]⟩]⟩ := by kernel_rfl
@[go_sem] theorem ti_180 : ti Try.prog 180 = ⟨true, .array 0 16, 0, 0, []⟩ := by kernel_rfl
@[go_sem] theorem ti_181 : ti Try.prog 181 = ⟨true, .struct [(0, 180)], 0, 0, []⟩ := by kernel_rfl
@[go_sem] theorem ti_182 : ti Try.prog 182 = ⟨true, .struct [(0, 180)], 0, 0, []⟩ := by kernel_rfl
@[go_sem] theorem ti_183 : ti Try.prog 183 = ⟨true, .int .u8, 1, 1, [.int .u8 0]⟩ := by kernel_rfl
@[go_sem] theorem ti_184 : ti Try.prog 184 = ⟨true, .int .u8, 1, 1, [.int .u8 0]⟩ := by kernel_rfl
@[go_sem] theorem ti_186 : ti Try.prog 186 = ⟨true, .pointer 5, 1, 8, [.pointer none]⟩ := by kernel_rfl
@[go_sem] theorem ti_187 : ti Try.prog 187 = ⟨true, .int .i32, 1, 4, [.int .i32 0]⟩ := by kernel_rfl
@[go_sem] theorem ti_188 : ti Try.prog 188 = ⟨true, .int .i32, 1, 4, [.int .i32 0]⟩ := by kernel_rfl
@[go_sem] theorem ti_189 : ti Try.prog 189 = ⟨true, .struct [(0, 12), (1, 12), (2, 159), (3, 183), (4, 5), (5, 5), (6, 184), (7, 185), (8, 186), (9, 187), (10, 188)], 11, 48, [.int .u64 0, .int .u64 0, .int .u32 0, .int .u8 0, .int .u8 0, .int .u8 0, .int .u8 0, .nilFunc, .pointer none, .int .i32 0, .int .i32 0]⟩ := by kernel_rfl
@[go_sem] theorem ti_190 : ti Try.prog 190 = ⟨true, .struct [(0, 12), (1, 12), (2, 159), (3, 183), (4, 5), (5, 5), (6, 184), (7, 185), (8, 186), (9, 187), (10, 188)], 11, 48, [.int .u64 0, .int .u64 0, .int .u32 0, .int .u8 0, .int .u8 0, .int .u8 0, .int .u8 0, .nilFunc, .pointer none, .int .i32 0, .int .i32 0]⟩ := by kernel_rfl
@[go_sem] theorem ti_191 : ti Try.prog 191 = ⟨true, .struct [(0, 9), (1, 184)], 2, 24, [.string ⟨#[]⟩, .int .u8 0]⟩ := by kernel_rfl
@[go_sem] theorem ti_192 : ti Try.prog 192 = ⟨true, .struct [(0, 9), (1, 184)], 2, 24, [.string ⟨#[]⟩, .int .u8 0]⟩ := by kernel_rfl
@[go_sem] theorem zo_2 : zeroOf Try.prog 2 = some (.int .i64 0) := by kernel_rfl
@[go_sem] theorem zo_3 : zeroOf Try.prog 3 = some (.int .i64 0) := by kernel_rfl
@[go_sem] theorem zo_4 : zeroOf Try.prog 4 = some (.bool false) := by kernel_rfl
@[go_sem] theorem zo_5 : zeroOf Try.prog 5 = some (.int .u8 0) := by kernel_rfl
@[go_sem] theorem zo_6 : zeroOf Try.prog 6 = some (.int .u8 0) := by kernel_rfl
@[go_sem] theorem zo_12 : zeroOf Try.prog 12 = some (.int .u64 0) := by kernel_rfl
@[go_sem] theorem zo_21 : zeroOf Try.prog 21 = some (.int .i32 0) := by kernel_rfl
@[go_sem] theorem zo_83 : zeroOf Try.prog 83 = some (.int .u64 0) := by kernel_rfl
@[go_sem] theorem zo_127 : zeroOf Try.prog 127 = some (.int .u64 0) := by kernel_rfl
@[go_sem] theorem zo_132 : zeroOf Try.prog 132 = some (.int .u64 0) := by kernel_rfl
@[go_sem] theorem zo_159 : zeroOf Try.prog 159 = some (.int .u32 0) := by kernel_rfl
@[go_sem] theorem zo_161 : zeroOf Try.prog 161 = some (.int .i64 0) := by kernel_rfl
@[go_sem] theorem zo_168 : zeroOf Try.prog 168 = some (.int .u64 0) := by kernel_rfl
@[go_sem] theorem zo_183 : zeroOf Try.prog 183 = some (.int .u8 0) := by kernel_rfl
@[go_sem] theorem zo_184 : zeroOf Try.prog 184 = some (.int .u8 0) := by kernel_rfl
@[go_sem] theorem zo_187 : zeroOf Try.prog 187 = some (.int .i32 0) := by kernel_rfl
@[go_sem] theorem zo_188 : zeroOf Try.prog 188 = some (.int .i32 0) := by kernel_rfl
@[go_sem] theorem eqi_31 : eqInfo Try.prog 31 = some [(0, 2), (1, 2)] := by kernel_rfl
@[go_sem] theorem eqi_32 : eqInfo Try.prog 32 = some [(0, 2), (1, 2)] := by kernel_rfl
@[go_sem] theorem eqi_48 : eqInfo Try.prog 48 = some [(0, 4), (1, 2), (2, 2)] := by kernel_rfl
@[go_sem] theorem eqi_49 : eqInfo Try.prog 49 = some [(0, 4), (1, 2), (2, 2)] := by kernel_rfl
@[go_sem] theorem eqi_57 : eqInfo Try.prog 57 = some [(0, 2), (1, 2)] := by kernel_rfl
@[go_sem] theorem eqi_58 : eqInfo Try.prog 58 = some [(0, 2), (1, 2)] := by kernel_rfl
@[go_sem] theorem eqi_80 : eqInfo Try.prog 80 = some [(0, 2), (1, 2), (2, 2)] := by kernel_rfl
@[go_sem] theorem eqi_81 : eqInfo Try.prog 81 = some [(0, 2), (1, 2), (2, 2)] := by kernel_rfl
@[go_sem] theorem eqi_145 : eqInfo Try.prog 145 = some [(0, 2), (1, 2), (2, 2), (3, 2)] := by kernel_rfl
@[go_sem] theorem eqi_146 : eqInfo Try.prog 146 = some [(0, 2), (1, 2), (2, 2), (3, 2)] := by kernel_rfl
theorem mixed : Try.prog.follows .mixedOrders = true := by kernel_rfl
end Go.Proofs.Ythnphcinjchloaa
