/-
  AG, part T: what the program says of its types, row by row, for simp. Conditions: none. Written by a program (gen_t.py).
-/
import Derived.Test.YtbbdfifpncjpnaaGreatDoorProg
import Derived.Test.YtbbdfifpncjpnaaGreatDoorAgQ
import Derived.KernelRfl
namespace Go.Proofs.YtbbdfifpncjpnaaGreatDoor
open Go.AG
@[go_sem] theorem ti_2 : ti Tryz.prog 2 = ⟨true, .int .i64, 1, 8, [.int .i64 0]⟩ := by kernel_rfl
@[go_sem] theorem ti_3 : ti Tryz.prog 3 = ⟨true, .int .i64, 1, 8, [.int .i64 0]⟩ := by kernel_rfl
@[go_sem] theorem ti_4 : ti Tryz.prog 4 = ⟨true, .bool, 1, 1, [.bool false]⟩ := by kernel_rfl
@[go_sem] theorem ti_5 : ti Tryz.prog 5 = ⟨true, .int .u8, 1, 1, [.int .u8 0]⟩ := by kernel_rfl
@[go_sem] theorem ti_6 : ti Tryz.prog 6 = ⟨true, .int .u8, 1, 1, [.int .u8 0]⟩ := by kernel_rfl
@[go_sem] theorem ti_7 : ti Tryz.prog 7 = ⟨true, .struct [(0, 2), (1, 3), (2, 4), (3, 6)], 4, 24, [.int .i64 0, .int .i64 0, .bool false, .int .u8 0]⟩ := by kernel_rfl
@[go_sem] theorem ti_8 : ti Tryz.prog 8 = ⟨true, .struct [(0, 2), (1, 3), (2, 4), (3, 6)], 4, 24, [.int .i64 0, .int .i64 0, .bool false, .int .u8 0]⟩ := by kernel_rfl
@[go_sem] theorem ti_9 : ti Tryz.prog 9 = ⟨true, .string, 1, 16, [.string ⟨#[]⟩]⟩ := by kernel_rfl
@[go_sem] theorem ti_10 : ti Tryz.prog 10 = ⟨true, .string, 1, 16, [.string ⟨#[]⟩]⟩ := by kernel_rfl
@[go_sem] theorem ti_11 : ti Tryz.prog 11 = ⟨true, .string, 1, 16, [.string ⟨#[]⟩]⟩ := by kernel_rfl
@[go_sem] theorem ti_12 : ti Tryz.prog 12 = ⟨true, .int .u64, 1, 8, [.int .u64 0]⟩ := by kernel_rfl
@[go_sem] theorem ti_13 : ti Tryz.prog 13 = ⟨true, .struct [(0, 9), (1, 12)], 2, 24, [.string ⟨#[]⟩, .int .u64 0]⟩ := by kernel_rfl
@[go_sem] theorem ti_14 : ti Tryz.prog 14 = ⟨true, .struct [(0, 9), (1, 12)], 2, 24, [.string ⟨#[]⟩, .int .u64 0]⟩ := by kernel_rfl
@[go_sem] theorem ti_15 : ti Tryz.prog 15 = ⟨true, .pointer 177, 1, 8, [.pointer none]⟩ := by kernel_rfl
@[go_sem] theorem ti_16 : ti Tryz.prog 16 = ⟨true, .pointer 180, 1, 8, [.pointer none]⟩ := by kernel_rfl
@[go_sem] theorem ti_17 : ti Tryz.prog 17 = ⟨true, .pointer 188, 1, 8, [.pointer none]⟩ := by kernel_rfl
@[go_sem] theorem ti_18 : ti Tryz.prog 18 = ⟨true, .struct [(0, 17)], 1, 8, [.pointer none]⟩ := by kernel_rfl
@[go_sem] theorem ti_19 : ti Tryz.prog 19 = ⟨true, .struct [(0, 17)], 1, 8, [.pointer none]⟩ := by kernel_rfl
@[go_sem] theorem ti_21 : ti Tryz.prog 21 = ⟨true, .int .i32, 1, 4, [.int .i32 0]⟩ := by kernel_rfl
@[go_sem] theorem ti_22 : ti Tryz.prog 22 = ⟨true, .slice 5, 1, 24, [.slice none 0 0]⟩ := by kernel_rfl
@[go_sem] theorem ti_24 : ti Tryz.prog 24 = ⟨true, .slice 33, 1, 24, [.slice none 0 0]⟩ := by kernel_rfl
@[go_sem] theorem ti_32 : ti Tryz.prog 32 = ⟨true, .struct [(0, 2), (1, 2), (2, 2), (3, 2)], 4, 32, [.int .i64 0, .int .i64 0, .int .i64 0, .int .i64 0]⟩ := by kernel_rfl
@[go_sem] theorem ti_33 : ti Tryz.prog 33 = ⟨true, .struct [(0, 2), (1, 2), (2, 2), (3, 2)], 4, 32, [.int .i64 0, .int .i64 0, .int .i64 0, .int .i64 0]⟩ := by kernel_rfl
@[go_sem] theorem ti_46 : ti Tryz.prog 46 = ⟨true, .slice 2, 1, 24, [.slice none 0 0]⟩ := by kernel_rfl
@[go_sem] theorem ti_50 : ti Tryz.prog 50 = ⟨true, .slice 58, 1, 24, [.slice none 0 0]⟩ := by kernel_rfl
@[go_sem] theorem ti_54 : ti Tryz.prog 54 = ⟨true, .slice 46, 1, 24, [.slice none 0 0]⟩ := by kernel_rfl
@[go_sem] theorem ti_57 : ti Tryz.prog 57 = ⟨true, .struct [(0, 9), (1, 2), (2, 2)], 3, 32, [.string ⟨#[]⟩, .int .i64 0, .int .i64 0]⟩ := by kernel_rfl
@[go_sem] theorem ti_58 : ti Tryz.prog 58 = ⟨true, .struct [(0, 9), (1, 2), (2, 2)], 3, 32, [.string ⟨#[]⟩, .int .i64 0, .int .i64 0]⟩ := by kernel_rfl
@[go_sem] theorem ti_71 : ti Tryz.prog 71 = ⟨true, .pointer 119, 1, 8, [.pointer none]⟩ := by kernel_rfl
@[go_sem] theorem ti_88 : ti Tryz.prog 88 = ⟨true, .pointer 33, 1, 8, [.pointer none]⟩ := by kernel_rfl
@[go_sem] theorem ti_95 : ti Tryz.prog 95 = ⟨true, .slice 9, 1, 24, [.slice none 0 0]⟩ := by kernel_rfl
@[go_sem] theorem ti_108 : ti Tryz.prog 108 = ⟨true, .pointer 58, 1, 8, [.pointer none]⟩ := by kernel_rfl
@[go_sem] theorem ti_117 : ti Tryz.prog 117 = ⟨true, .int .u64, 1, 8, [.int .u64 0]⟩ := by kernel_rfl
@[go_sem] theorem ti_118 : ti Tryz.prog 118 = ⟨true, .struct [(0, 22), (1, 3), (2, 117)], 3, 40, [.slice none 0 0, .int .i64 0, .int .u64 0]⟩ := by kernel_rfl
@[go_sem] theorem ti_119 : ti Tryz.prog 119 = ⟨true, .struct [(0, 22), (1, 3), (2, 117)], 3, 40, [.slice none 0 0, .int .i64 0, .int .u64 0]⟩ := by kernel_rfl
@[go_sem] theorem ti_129 : ti Tryz.prog 129 = ⟨true, .int .u64, 1, 8, [.int .u64 0]⟩ := by kernel_rfl
@[go_sem] theorem ti_130 : ti Tryz.prog 130 = ⟨true, .slice 132, 1, 24, [.slice none 0 0]⟩ := by kernel_rfl
@[go_sem] theorem ti_131 : ti Tryz.prog 131 = ⟨true, .struct [(0, 3), (1, 3)], 2, 16, [.int .i64 0, .int .i64 0]⟩ := by kernel_rfl
@[go_sem] theorem ti_132 : ti Tryz.prog 132 = ⟨true, .struct [(0, 3), (1, 3)], 2, 16, [.int .i64 0, .int .i64 0]⟩ := by kernel_rfl
@[go_sem] theorem ti_140 : ti Tryz.prog 140 = ⟨true, .array 24 5, 24, 24, [.int .u8 0, .int .u8 0, .int .u8 0, .int .u8 0, .int .u8 0, .int .u8 0, .int .u8 0, .int .u8 0, .int .u8 0, .int .u8 0, .int .u8 0, .int .u8 0, .int .u8 0, .int .u8 0, .int .u8 0, .int .u8 0, .int .u8 0, .int .u8 0, .int .u8 0, .int .u8 0, .int .u8 0, .int .u8 0, .int .u8 0, .int .u8 0]⟩ := by kernel_rfl
@[go_sem] theorem ti_149 : ti Tryz.prog 149 = ⟨true, .array 20 117, 20, 160, [.int .u64 0, .int .u64 0, .int .u64 0, .int .u64 0, .int .u64 0, .int .u64 0, .int .u64 0, .int .u64 0, .int .u64 0, .int .u64 0, .int .u64 0, .int .u64 0, .int .u64 0, .int .u64 0, .int .u64 0, .int .u64 0, .int .u64 0, .int .u64 0, .int .u64 0, .int .u64 0]⟩ := by kernel_rfl
@[go_sem] theorem ti_150 : ti Tryz.prog 150 = ⟨true, .int .u32, 1, 4, [.int .u32 0]⟩ := by kernel_rfl
@[go_sem] theorem ti_151 : ti Tryz.prog 151 = ⟨true, .array 65 5, 65, 65, [.int .u8 0, .int .u8 0, .int .u8 0, .int .u8 0, .int .u8 0, .int .u8 0, .int .u8 0, .int .u8 0, .int .u8 0, .int .u8 0, .int .u8 0, .int .u8 0, .int .u8 0, .int .u8 0, .int .u8 0, .int .u8 0, .int .u8 0, .int .u8 0, .int .u8 0, .int .u8 0, .int .u8 0, .int .u8 0, .int .u8 0, .int .u8 0, .int .u8 0, .int .u8 0, .int .u8 0, .int .u8 0, .int .u8 0, .int .u8 0, .int .u8 0, .int .u8 0, .int .u8 0, .int .u8 0, .int .u8 0, .int .u8 0, .int .u8 0, .int .u8 0, .int .u8 0, .int .u8 0, .int .u8 0, .int .u8 0, .int .u8 0, .int .u8 0, .int .u8 0, .int .u8 0, .int .u8 0, .int .u8 0, .int .u8 0, .int .u8 0, .int .u8 0, .int .u8 0, .int .u8 0, .int .u8 0, .int .u8 0, .int .u8 0, .int .u8 0, .int .u8 0, .int .u8 0, .int .u8 0, .int .u8 0, .int .u8 0, .int .u8 0, .int .u8 0, .int .u8 0]⟩ := by kernel_rfl
@[go_sem] theorem ti_154 : ti Tryz.prog 154 = ⟨true, .int .i64, 1, 8, [.int .i64 0]⟩ := by kernel_rfl
@[go_sem] theorem ti_157 : ti Tryz.prog 157 = ⟨true, .pointer 167, 1, 8, [.pointer none]⟩ := by kernel_rfl
@[go_sem] theorem ti_166 : ti Tryz.prog 166 = ⟨true, .struct [(0, 9), (1, 9), (2, 134)], 3, 48, [.string ⟨#[]⟩, .string ⟨#[]⟩, .nilIface]⟩ := by kernel_rfl
@[go_sem] theorem ti_167 : ti Tryz.prog 167 = ⟨true, .struct [(0, 9), (1, 9), (2, 134)], 3, 48, [.string ⟨#[]⟩, .string ⟨#[]⟩, .nilIface]⟩ := by kernel_rfl
@[go_sem] theorem ti_169 : ti Tryz.prog 169 = ⟨true, .array 32 5, 32, 32, [.int .u8 0, .int .u8 0, .int .u8 0, .int .u8 0, .int .u8 0, .int .u8 0, .int .u8 0, .int .u8 0, .int .u8 0, .int .u8 0, .int .u8 0, .int .u8 0, .int .u8 0, .int .u8 0, .int .u8 0, .int .u8 0, .int .u8 0, .int .u8 0, .int .u8 0, .int .u8 0, .int .u8 0, .int .u8 0, .int .u8 0, .int .u8 0, .int .u8 0, .int .u8 0, .int .u8 0, .int .u8 0, .int .u8 0, .int .u8 0, .int .u8 0, .int .u8 0]⟩ := by kernel_rfl
@[go_sem] theorem ti_170 : ti Tryz.prog 170 = ⟨true, .array 64 5, 64, 64, [.int .u8 0, .int .u8 0, .int .u8 0, .int .u8 0, .int .u8 0, .int .u8 0, .int .u8 0, .int .u8 0, .int .u8 0, .int .u8 0, .int .u8 0, .int .u8 0, .int .u8 0, .int .u8 0, .int .u8 0, .int .u8 0, .int .u8 0, .int .u8 0, .int .u8 0, .int .u8 0, .int .u8 0, .int .u8 0, .int .u8 0, .int .u8 0, .int .u8 0, .int .u8 0, .int .u8 0, .int .u8 0, .int .u8 0, .int .u8 0, .int .u8 0, .int .u8 0, .int .u8 0, .int .u8 0, .int .u8 0, .int .u8 0, .int .u8 0, .int .u8 0, .int .u8 0, .int .u8 0, .int .u8 0, .int .u8 0, .int .u8 0, .int .u8 0, .int .u8 0, .int .u8 0, .int .u8 0, .int .u8 0, .int .u8 0, .int .u8 0, .int .u8 0, .int .u8 0, .int .u8 0, .int .u8 0, .int .u8 0, .int .u8 0, .int .u8 0, .int .u8 0, .int .u8 0, .int .u8 0, .int .u8 0, .int .u8 0, .int .u8 0, .int .u8 0]⟩ := by kernel_rfl
@[go_sem] theorem ti_171 : ti Tryz.prog 171 = ⟨true, .pointer 5, 1, 8, [.pointer none]⟩ := by kernel_rfl
@[go_sem] theorem ti_172 : ti Tryz.prog 172 = ⟨true, .pointer 174, 1, 8, [.pointer none]⟩ := by kernel_rfl
@[go_sem] theorem ti_173 : ti Tryz.prog 173 = ⟨true, .struct [(0, 9)], 1, 16, [.string ⟨#[]⟩]⟩ := by kernel_rfl
@[go_sem] theorem ti_174 : ti Tryz.prog 174 = ⟨true, .struct [(0, 9)], 1, 16, [.string ⟨#[]⟩]⟩ := by kernel_rfl
@[go_sem] theorem ti_176 : ti Tryz.prog 176 = ⟨true, .struct [(0, 17), (1, 17), (2, 17), (3, 9)], 4, 40, [.pointer none, .pointer none, .pointer none, .string ⟨#[]⟩]⟩ := by kernel_rfl
@[go_sem] theorem ti_177 : ti Tryz.prog 177 = ⟨true, .struct [(0, 17), (1, 17), (2, 17), (3, 9)], 4, 40, [.pointer none, .pointer none, .pointer none, .string ⟨#[]⟩]⟩ := by kernel_rfl
@[go_sem] theorem ti_178 : ti Tryz.prog 178 = ⟨true, .array 0 16, 0, 0, []⟩ := by kernel_rfl
@[go_sem] theorem ti_179 : ti Tryz.prog 179 = ⟨true, .struct [(0, 178)], 0, 0, []⟩ := by kernel_rfl
@[go_sem] theorem ti_180 : ti Tryz.prog 180 = ⟨true, .struct [(0, 178)], 0, 0, []⟩ := by kernel_rfl
@[go_sem] theorem ti_182 : ti Tryz.prog 182 = ⟨true, .int .u8, 1, 1, [.int .u8 0]⟩ := by kernel_rfl
@[go_sem] theorem ti_183 : ti Tryz.prog 183 = ⟨true, .int .u8, 1, 1, [.int .u8 0]⟩ := by kernel_rfl
@[go_sem] theorem ti_185 : ti Tryz.prog 185 = ⟨true, .int .i32, 1, 4, [.int .i32 0]⟩ := by kernel_rfl
@[go_sem] theorem ti_186 : ti Tryz.prog 186 = ⟨true, .int .i32, 1, 4, [.int .i32 0]⟩ := by kernel_rfl
@[go_sem] theorem ti_187 : ti Tryz.prog 187 = ⟨true, .struct [(0, 12), (1, 12), (2, 150), (3, 182), (4, 5), (5, 5), (6, 183), (7, 184), (8, 171), (9, 185), (10, 186)], 11, 48, [.int .u64 0, .int .u64 0, .int .u32 0, .int .u8 0, .int .u8 0, .int .u8 0, .int .u8 0, .nilFunc, .pointer none, .int .i32 0, .int .i32 0]⟩ := by kernel_rfl
@[go_sem] theorem ti_188 : ti Tryz.prog 188 = ⟨true, .struct [(0, 12), (1, 12), (2, 150), (3, 182), (4, 5), (5, 5), (6, 183), (7, 184), (8, 171), (9, 185), (10, 186)], 11, 48, [.int .u64 0, .int .u64 0, .int .u32 0, .int .u8 0, .int .u8 0, .int .u8 0, .int .u8 0, .nilFunc, .pointer none, .int .i32 0, .int .i32 0]⟩ := by kernel_rfl
@[go_sem] theorem zo_2 : zeroOf Tryz.prog 2 = some (.int .i64 0) := by kernel_rfl
@[go_sem] theorem zo_3 : zeroOf Tryz.prog 3 = some (.int .i64 0) := by kernel_rfl
@[go_sem] theorem zo_4 : zeroOf Tryz.prog 4 = some (.bool false) := by kernel_rfl
@[go_sem] theorem zo_5 : zeroOf Tryz.prog 5 = some (.int .u8 0) := by kernel_rfl
@[go_sem] theorem zo_6 : zeroOf Tryz.prog 6 = some (.int .u8 0) := by kernel_rfl
@[go_sem] theorem zo_12 : zeroOf Tryz.prog 12 = some (.int .u64 0) := by kernel_rfl
@[go_sem] theorem zo_21 : zeroOf Tryz.prog 21 = some (.int .i32 0) := by kernel_rfl
@[go_sem] theorem zo_117 : zeroOf Tryz.prog 117 = some (.int .u64 0) := by kernel_rfl
@[go_sem] theorem zo_129 : zeroOf Tryz.prog 129 = some (.int .u64 0) := by kernel_rfl
@[go_sem] theorem zo_150 : zeroOf Tryz.prog 150 = some (.int .u32 0) := by kernel_rfl
@[go_sem] theorem zo_154 : zeroOf Tryz.prog 154 = some (.int .i64 0) := by kernel_rfl
@[go_sem] theorem zo_182 : zeroOf Tryz.prog 182 = some (.int .u8 0) := by kernel_rfl
@[go_sem] theorem zo_183 : zeroOf Tryz.prog 183 = some (.int .u8 0) := by kernel_rfl
@[go_sem] theorem zo_185 : zeroOf Tryz.prog 185 = some (.int .i32 0) := by kernel_rfl
@[go_sem] theorem zo_186 : zeroOf Tryz.prog 186 = some (.int .i32 0) := by kernel_rfl
@[go_sem] theorem eqi_32 : eqInfo Tryz.prog 32 = some [(0, 2), (1, 2), (2, 2), (3, 2)] := by kernel_rfl
@[go_sem] theorem eqi_33 : eqInfo Tryz.prog 33 = some [(0, 2), (1, 2), (2, 2), (3, 2)] := by kernel_rfl
@[go_sem] theorem eqi_57 : eqInfo Tryz.prog 57 = some [(0, 9), (1, 2), (2, 2)] := by kernel_rfl
@[go_sem] theorem eqi_58 : eqInfo Tryz.prog 58 = some [(0, 9), (1, 2), (2, 2)] := by kernel_rfl
theorem mixed : Tryz.prog.follows .mixedOrders = true := by kernel_rfl
end Go.Proofs.YtbbdfifpncjpnaaGreatDoor
