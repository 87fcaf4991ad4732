/-
  AG, part T: what the program says of its types, row by row, for simp. Conditions: none. Written by a program (gen_t.py).
-/
import Derived.Test.YtilocioajpcoiaaProg
import Derived.Test.YtilocioajpcoiaaAgQ
import Derived.KernelRfl
namespace Go.Proofs.Ytilocioajpcoiaa
open Go.AG
@[go_sem] theorem ti_2 : ti Try.prog 2 = ⟨true, .int .i64, 1, 8, [.int .i64 0]⟩ := by kernel_rfl
@[go_sem] theorem ti_3 : ti Try.prog 3 = ⟨true, .int .i64, 1, 8, [.int .i64 0]⟩ := by kernel_rfl
@[go_sem] theorem ti_4 : ti Try.prog 4 = ⟨true, .bool, 1, 1, [.bool false]⟩ := by kernel_rfl
@[go_sem] theorem ti_5 : ti Try.prog 5 = ⟨true, .int .u8, 1, 1, [.int .u8 0]⟩ := by kernel_rfl
@[go_sem] theorem ti_6 : ti Try.prog 6 = ⟨true, .int .u8, 1, 1, [.int .u8 0]⟩ := by kernel_rfl
@[go_sem] theorem ti_7 : ti Try.prog 7 = ⟨true, .struct [(0, 2), (1, 3), (2, 4), (3, 6)], 4, 24, [.int .i64 0, .int .i64 0, .bool false, .int .u8 0]⟩ := by kernel_rfl
@[go_sem] theorem ti_8 : ti Try.prog 8 = ⟨true, .struct [(0, 2), (1, 3), (2, 4), (3, 6)], 4, 24, [.int .i64 0, .int .i64 0, .bool false, .int .u8 0]⟩ := by kernel_rfl
@[go_sem] theorem ti_9 : ti Try.prog 9 = ⟨true, .string, 1, 16, [.string ⟨#[]⟩]⟩ := by kernel_rfl
@[go_sem] theorem ti_10 : ti Try.prog 10 = ⟨true, .string, 1, 16, [.string ⟨#[]⟩]⟩ := by kernel_rfl
@[go_sem] theorem ti_11 : ti Try.prog 11 = ⟨true, .string, 1, 16, [.string ⟨#[]⟩]⟩ := by kernel_rfl
@[go_sem] theorem ti_12 : ti Try.prog 12 = ⟨true, .int .u64, 1, 8, [.int .u64 0]⟩ := by kernel_rfl
@[go_sem] theorem ti_13 : ti Try.prog 13 = ⟨true, .struct [(0, 9), (1, 12)], 2, 24, [.string ⟨#[]⟩, .int .u64 0]⟩ := by kernel_rfl
@[go_sem] theorem ti_14 : ti Try.prog 14 = ⟨true, .struct [(0, 9), (1, 12)], 2, 24, [.string ⟨#[]⟩, .int .u64 0]⟩ := by kernel_rfl
@[go_sem] theorem ti_15 : ti Try.prog 15 = ⟨true, .pointer 163, 1, 8, [.pointer none]⟩ := by kernel_rfl
@[go_sem] theorem ti_16 : ti Try.prog 16 = ⟨true, .pointer 166, 1, 8, [.pointer none]⟩ := by kernel_rfl
@[go_sem] theorem ti_17 : ti Try.prog 17 = ⟨true, .pointer 174, 1, 8, [.pointer none]⟩ := by kernel_rfl
@[go_sem] theorem ti_18 : ti Try.prog 18 = ⟨true, .struct [(0, 17)], 1, 8, [.pointer none]⟩ := by kernel_rfl
@[go_sem] theorem ti_19 : ti Try.prog 19 = ⟨true, .struct [(0, 17)], 1, 8, [.pointer none]⟩ := by kernel_rfl
@[go_sem] theorem ti_21 : ti Try.prog 21 = ⟨true, .int .i32, 1, 4, [.int .i32 0]⟩ := by kernel_rfl
@[go_sem] theorem ti_22 : ti Try.prog 22 = ⟨true, .slice 5, 1, 24, [.slice none 0 0]⟩ := by kernel_rfl
@[go_sem] theorem ti_24 : ti Try.prog 24 = ⟨true, .slice 37, 1, 24, [.slice none 0 0]⟩ := by kernel_rfl
@[go_sem] theorem ti_25 : ti Try.prog 25 = ⟨true, .slice 2, 1, 24, [.slice none 0 0]⟩ := by kernel_rfl
@[go_sem] theorem ti_31 : ti Try.prog 31 = ⟨true, .slice 39, 1, 24, [.slice none 0 0]⟩ := by kernel_rfl
@[go_sem] theorem ti_36 : ti Try.prog 36 = ⟨true, .struct [(0, 2), (1, 2), (2, 2), (3, 2)], 4, 32, [.int .i64 0, .int .i64 0, .int .i64 0, .int .i64 0]⟩ := by kernel_rfl
@[go_sem] theorem ti_37 : ti Try.prog 37 = ⟨true, .struct [(0, 2), (1, 2), (2, 2), (3, 2)], 4, 32, [.int .i64 0, .int .i64 0, .int .i64 0, .int .i64 0]⟩ := by kernel_rfl
@[go_sem] theorem ti_38 : ti Try.prog 38 = ⟨true, .struct [(0, 2), (1, 2), (2, 2), (3, 2)], 4, 32, [.int .i64 0, .int .i64 0, .int .i64 0, .int .i64 0]⟩ := by kernel_rfl
@[go_sem] theorem ti_39 : ti Try.prog 39 = ⟨true, .struct [(0, 2), (1, 2), (2, 2), (3, 2)], 4, 32, [.int .i64 0, .int .i64 0, .int .i64 0, .int .i64 0]⟩ := by kernel_rfl
@[go_sem] theorem ti_40 : ti Try.prog 40 = ⟨true, .slice 42, 1, 24, [.slice none 0 0]⟩ := by kernel_rfl
@[go_sem] theorem ti_42 : ti Try.prog 42 = ⟨true, .slice 9, 1, 24, [.slice none 0 0]⟩ := by kernel_rfl
@[go_sem] theorem ti_53 : ti Try.prog 53 = ⟨true, .struct [(0, 2), (1, 2)], 2, 16, [.int .i64 0, .int .i64 0]⟩ := by kernel_rfl
@[go_sem] theorem ti_54 : ti Try.prog 54 = ⟨true, .struct [(0, 2), (1, 2)], 2, 16, [.int .i64 0, .int .i64 0]⟩ := by kernel_rfl
@[go_sem] theorem ti_60 : ti Try.prog 60 = ⟨true, .slice 69, 1, 24, [.slice none 0 0]⟩ := by kernel_rfl
@[go_sem] theorem ti_68 : ti Try.prog 68 = ⟨true, .struct [(0, 2), (1, 2), (2, 2), (3, 2)], 4, 32, [.int .i64 0, .int .i64 0, .int .i64 0, .int .i64 0]⟩ := by kernel_rfl
@[go_sem] theorem ti_69 : ti Try.prog 69 = ⟨true, .struct [(0, 2), (1, 2), (2, 2), (3, 2)], 4, 32, [.int .i64 0, .int .i64 0, .int .i64 0, .int .i64 0]⟩ := by kernel_rfl
@[go_sem] theorem ti_70 : ti Try.prog 70 = ⟨true, .pointer 101, 1, 8, [.pointer none]⟩ := by kernel_rfl
@[go_sem] theorem ti_99 : ti Try.prog 99 = ⟨true, .int .u64, 1, 8, [.int .u64 0]⟩ := by kernel_rfl
@[go_sem] theorem ti_100 : ti Try.prog 100 = ⟨true, .struct [(0, 22), (1, 3), (2, 99)], 3, 40, [.slice none 0 0, .int .i64 0, .int .u64 0]⟩ := by kernel_rfl
@[go_sem] theorem ti_101 : ti Try.prog 101 = ⟨true, .struct [(0, 22), (1, 3), (2, 99)], 3, 40, [.slice none 0 0, .int .i64 0, .int .u64 0]⟩ := by kernel_rfl
@[go_sem] theorem ti_104 : ti Try.prog 104 = ⟨true, .slice 3, 1, 24, [.slice none 0 0]⟩ := by kernel_rfl
@[go_sem] theorem ti_118 : ti Try.prog 118 = ⟨true, .int .u64, 1, 8, [.int .u64 0]⟩ := by kernel_rfl
@[go_sem] theorem ti_122 : ti Try.prog 122 = ⟨true, .int .u64, 1, 8, [.int .u64 0]⟩ := by kernel_rfl
@[go_sem] theorem ti_123 : ti Try.prog 123 = ⟨true, .struct [(0, 17), (1, 121), (2, 122)], 3, 24, [.pointer none, .pointer none, .int .u64 0]⟩ := by kernel_rfl
@[go_sem] theorem ti_124 : ti Try.prog 124 = ⟨true, .struct [(0, 17), (1, 121), (2, 122)], 3, 24, [.pointer none, .pointer none, .int .u64 0]⟩ := by kernel_rfl
@[go_sem] theorem ti_129 : ti Try.prog 129 = ⟨true, .struct [(0, 106), (1, 126)], 2, 16, [.nilFunc, .nilFunc]⟩ := by kernel_rfl
@[go_sem] theorem ti_130 : ti Try.prog 130 = ⟨true, .struct [(0, 106), (1, 126)], 2, 16, [.nilFunc, .nilFunc]⟩ := by kernel_rfl
@[go_sem] theorem ti_135 : ti Try.prog 135 = ⟨true, .struct [(0, 17)], 1, 8, [.pointer none]⟩ := by kernel_rfl
@[go_sem] theorem ti_136 : ti Try.prog 136 = ⟨true, .struct [(0, 17)], 1, 8, [.pointer none]⟩ := by kernel_rfl
@[go_sem] theorem ti_137 : ti Try.prog 137 = ⟨true, .pointer 176, 1, 8, [.pointer none]⟩ := by kernel_rfl
@[go_sem] theorem ti_141 : ti Try.prog 141 = ⟨true, .int .i64, 1, 8, [.int .i64 0]⟩ := by kernel_rfl
@[go_sem] theorem ti_150 : ti Try.prog 150 = ⟨true, .int .u32, 1, 4, [.int .u32 0]⟩ := by kernel_rfl
@[go_sem] theorem ti_152 : ti Try.prog 152 = ⟨true, .int .u64, 1, 8, [.int .u64 0]⟩ := by kernel_rfl
@[go_sem] theorem ti_156 : ti Try.prog 156 = ⟨true, .pointer 3, 1, 8, [.pointer none]⟩ := by kernel_rfl
@[go_sem] theorem ti_158 : ti Try.prog 158 = ⟨true, .pointer 152, 1, 8, [.pointer none]⟩ := by kernel_rfl
@[go_sem] theorem ti_162 : ti Try.prog 162 = ⟨true, .struct [(0, 17), (1, 17), (2, 17), (3, 9)], 4, 40, [.pointer none, .pointer none, .pointer none, .string ⟨#[]⟩]⟩ := by kernel_rfl
@[go_sem] theorem ti_163 : ti Try.prog 163 = ⟨true, .struct [(0, 17), (1, 17), (2, 17), (3, 9)], 4, 40, [.pointer none, .pointer none, .pointer none, .string ⟨#[]⟩]⟩ := by kernel_rfl
@[go_sem] theorem ti_164 : ti Try.prog 164 = ⟨true, .array 0 16, 0, 0, []⟩ := by kernel_rfl
@[go_sem] theorem ti_165 : ti Try.prog 165 = ⟨true, .struct [(0, 164)], 0, 0, []⟩ := by kernel_rfl
@[go_sem] theorem ti_166 : ti Try.prog 166 = ⟨true, .struct [(0, 164)], 0, 0, []⟩ := by kernel_rfl
@[go_sem] theorem ti_167 : ti Try.prog 167 = ⟨true, .int .u8, 1, 1, [.int .u8 0]⟩ := by kernel_rfl
@[go_sem] theorem ti_168 : ti Try.prog 168 = ⟨true, .int .u8, 1, 1, [.int .u8 0]⟩ := by kernel_rfl
@[go_sem] theorem ti_170 : ti Try.prog 170 = ⟨true, .pointer 5, 1, 8, [.pointer none]⟩ := by kernel_rfl
@[go_sem] theorem ti_171 : ti Try.prog 171 = ⟨true, .int .i32, 1, 4, [.int .i32 0]⟩ := by kernel_rfl
@[go_sem] theorem ti_172 : ti Try.prog 172 = ⟨true, .int .i32, 1, 4, [.int .i32 0]⟩ := by kernel_rfl
@[go_sem] theorem ti_173 : ti Try.prog 173 = ⟨true, .struct [(0, 12), (1, 12), (2, 150), (3, 167), (4, 5), (5, 5), (6, 168), (7, 169), (8, 170), (9, 171), (10, 172)], 11, 48, [.int .u64 0, .int .u64 0, .int .u32 0, .int .u8 0, .int .u8 0, .int .u8 0, .int .u8 0, .nilFunc, .pointer none, .int .i32 0, .int .i32 0]⟩ := by kernel_rfl
@[go_sem] theorem ti_174 : ti Try.prog 174 = ⟨true, .struct [(0, 12), (1, 12), (2, 150), (3, 167), (4, 5), (5, 5), (6, 168), (7, 169), (8, 170), (9, 171), (10, 172)], 11, 48, [.int .u64 0, .int .u64 0, .int .u32 0, .int .u8 0, .int .u8 0, .int .u8 0, .int .u8 0, .nilFunc, .pointer none, .int .i32 0, .int .i32 0]⟩ := by kernel_rfl
@[go_sem] theorem ti_175 : ti Try.prog 175 = ⟨true, .struct [(0, 9), (1, 168)], 2, 24, [.string ⟨#[]⟩, .int .u8 0]⟩ := by kernel_rfl
@[go_sem] theorem ti_176 : ti Try.prog 176 = ⟨true, .struct [(0, 9), (1, 168)], 2, 24, [.string ⟨#[]⟩, .int .u8 0]⟩ := by kernel_rfl
@[go_sem] theorem zo_2 : zeroOf Try.prog 2 = some (.int .i64 0) := by kernel_rfl
@[go_sem] theorem zo_3 : zeroOf Try.prog 3 = some (.int .i64 0) := by kernel_rfl
@[go_sem] theorem zo_4 : zeroOf Try.prog 4 = some (.bool false) := by kernel_rfl
@[go_sem] theorem zo_5 : zeroOf Try.prog 5 = some (.int .u8 0) := by kernel_rfl
@[go_sem] theorem zo_6 : zeroOf Try.prog 6 = some (.int .u8 0) := by kernel_rfl
@[go_sem] theorem zo_12 : zeroOf Try.prog 12 = some (.int .u64 0) := by kernel_rfl
@[go_sem] theorem zo_21 : zeroOf Try.prog 21 = some (.int .i32 0) := by kernel_rfl
@[go_sem] theorem zo_99 : zeroOf Try.prog 99 = some (.int .u64 0) := by kernel_rfl
@[go_sem] theorem zo_118 : zeroOf Try.prog 118 = some (.int .u64 0) := by kernel_rfl
@[go_sem] theorem zo_122 : zeroOf Try.prog 122 = some (.int .u64 0) := by kernel_rfl
@[go_sem] theorem zo_141 : zeroOf Try.prog 141 = some (.int .i64 0) := by kernel_rfl
@[go_sem] theorem zo_150 : zeroOf Try.prog 150 = some (.int .u32 0) := by kernel_rfl
@[go_sem] theorem zo_152 : zeroOf Try.prog 152 = some (.int .u64 0) := by kernel_rfl
@[go_sem] theorem zo_167 : zeroOf Try.prog 167 = some (.int .u8 0) := by kernel_rfl
@[go_sem] theorem zo_168 : zeroOf Try.prog 168 = some (.int .u8 0) := by kernel_rfl
@[go_sem] theorem zo_171 : zeroOf Try.prog 171 = some (.int .i32 0) := by kernel_rfl
@[go_sem] theorem zo_172 : zeroOf Try.prog 172 = some (.int .i32 0) := by kernel_rfl
@[go_sem] theorem eqi_36 : eqInfo Try.prog 36 = some [(0, 2), (1, 2), (2, 2), (3, 2)] := by kernel_rfl
@[go_sem] theorem eqi_37 : eqInfo Try.prog 37 = some [(0, 2), (1, 2), (2, 2), (3, 2)] := by kernel_rfl
@[go_sem] theorem eqi_38 : eqInfo Try.prog 38 = some [(0, 2), (1, 2), (2, 2), (3, 2)] := by kernel_rfl
@[go_sem] theorem eqi_39 : eqInfo Try.prog 39 = some [(0, 2), (1, 2), (2, 2), (3, 2)] := by kernel_rfl
@[go_sem] theorem eqi_53 : eqInfo Try.prog 53 = some [(0, 2), (1, 2)] := by kernel_rfl
@[go_sem] theorem eqi_54 : eqInfo Try.prog 54 = some [(0, 2), (1, 2)] := by kernel_rfl
@[go_sem] theorem eqi_68 : eqInfo Try.prog 68 = some [(0, 2), (1, 2), (2, 2), (3, 2)] := by kernel_rfl
@[go_sem] theorem eqi_69 : eqInfo Try.prog 69 = some [(0, 2), (1, 2), (2, 2), (3, 2)] := by kernel_rfl
theorem mixed : Try.prog.follows .mixedOrders = true := by kernel_rfl
end Go.Proofs.Ytilocioajpcoiaa
