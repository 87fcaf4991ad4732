/-
  AG, part T: what the program says of its types, row by row, for simp. Conditions: none. Written by a program (gen_t.py).
-/
import Derived.Test.YtnphbdcdncmojaaDoorProg
import Derived.Test.YtnphbdcdncmojaaDoorAgQ
import Derived.KernelRfl
namespace Go.Proofs.YtnphbdcdncmojaaDoor
open Go.AG
@[go_sem] theorem ti_2 : ti Tryd.prog 2 = ⟨true, .int .i64, 1, 8, [.int .i64 0]⟩ := by kernel_rfl
@[go_sem] theorem ti_3 : ti Tryd.prog 3 = ⟨true, .int .i64, 1, 8, [.int .i64 0]⟩ := by kernel_rfl
@[go_sem] theorem ti_4 : ti Tryd.prog 4 = ⟨true, .bool, 1, 1, [.bool false]⟩ := by kernel_rfl
@[go_sem] theorem ti_5 : ti Tryd.prog 5 = ⟨true, .int .u8, 1, 1, [.int .u8 0]⟩ := by kernel_rfl
@[go_sem] theorem ti_6 : ti Tryd.prog 6 = ⟨true, .int .u8, 1, 1, [.int .u8 0]⟩ := by kernel_rfl
@[go_sem] theorem ti_7 : ti Tryd.prog 7 = ⟨true, .struct [(0, 2), (1, 3), (2, 4), (3, 6)], 4, 24, [.int .i64 0, .int .i64 0, .bool false, .int .u8 0]⟩ := by kernel_rfl
@[go_sem] theorem ti_8 : ti Tryd.prog 8 = ⟨true, .struct [(0, 2), (1, 3), (2, 4), (3, 6)], 4, 24, [.int .i64 0, .int .i64 0, .bool false, .int .u8 0]⟩ := by kernel_rfl
@[go_sem] theorem ti_9 : ti Tryd.prog 9 = ⟨true, .string, 1, 16, [.string ⟨#[]⟩]⟩ := by kernel_rfl
@[go_sem] theorem ti_10 : ti Tryd.prog 10 = ⟨true, .string, 1, 16, [.string ⟨#[]⟩]⟩ := by kernel_rfl
@[go_sem] theorem ti_11 : ti Tryd.prog 11 = ⟨true, .string, 1, 16, [.string ⟨#[]⟩]⟩ := by kernel_rfl
@[go_sem] theorem ti_12 : ti Tryd.prog 12 = ⟨true, .int .u64, 1, 8, [.int .u64 0]⟩ := by kernel_rfl
@[go_sem] theorem ti_13 : ti Tryd.prog 13 = ⟨true, .struct [(0, 9), (1, 12)], 2, 24, [.string ⟨#[]⟩, .int .u64 0]⟩ := by kernel_rfl
@[go_sem] theorem ti_14 : ti Tryd.prog 14 = ⟨true, .struct [(0, 9), (1, 12)], 2, 24, [.string ⟨#[]⟩, .int .u64 0]⟩ := by kernel_rfl
@[go_sem] theorem ti_15 : ti Tryd.prog 15 = ⟨true, .pointer 231, 1, 8, [.pointer none]⟩ := by kernel_rfl
@[go_sem] theorem ti_16 : ti Tryd.prog 16 = ⟨true, .pointer 234, 1, 8, [.pointer none]⟩ := by kernel_rfl
@[go_sem] theorem ti_17 : ti Tryd.prog 17 = ⟨true, .pointer 242, 1, 8, [.pointer none]⟩ := by kernel_rfl
@[go_sem] theorem ti_18 : ti Tryd.prog 18 = ⟨true, .struct [(0, 17)], 1, 8, [.pointer none]⟩ := by kernel_rfl
@[go_sem] theorem ti_19 : ti Tryd.prog 19 = ⟨true, .struct [(0, 17)], 1, 8, [.pointer none]⟩ := by kernel_rfl
@[go_sem] theorem ti_21 : ti Tryd.prog 21 = ⟨true, .int .i32, 1, 4, [.int .i32 0]⟩ := by kernel_rfl
@[go_sem] theorem ti_22 : ti Tryd.prog 22 = ⟨true, .slice 5, 1, 24, [.slice none 0 0]⟩ := by kernel_rfl
@[go_sem] theorem ti_24 : ti Tryd.prog 24 = ⟨true, .slice 2, 1, 24, [.slice none 0 0]⟩ := by kernel_rfl
@[go_sem] theorem ti_25 : ti Tryd.prog 25 = ⟨true, .struct [(0, 24), (1, 24)], 2, 48, [.slice none 0 0, .slice none 0 0]⟩ := by kernel_rfl
@[go_sem] theorem ti_26 : ti Tryd.prog 26 = ⟨true, .struct [(0, 24), (1, 24)], 2, 48, [.slice none 0 0, .slice none 0 0]⟩ := by kernel_rfl
@[go_sem] theorem ti_27 : ti Tryd.prog 27 = ⟨true, .struct [(0, 2), (1, 2)], 2, 16, [.int .i64 0, .int .i64 0]⟩ := by kernel_rfl
@[go_sem] theorem ti_28 : ti Tryd.prog 28 = ⟨true, .struct [(0, 2), (1, 2)], 2, 16, [.int .i64 0, .int .i64 0]⟩ := by kernel_rfl
@[go_sem] theorem ti_32 : ti Tryd.prog 32 = ⟨true, .slice 43, 1, 24, [.slice none 0 0]⟩ := by kernel_rfl
@[go_sem] theorem ti_42 : ti Tryd.prog 42 = ⟨true, .struct [(0, 2), (1, 4)], 2, 16, [.int .i64 0, .bool false]⟩ := by kernel_rfl
@[go_sem] theorem ti_43 : ti Tryd.prog 43 = ⟨true, .struct [(0, 2), (1, 4)], 2, 16, [.int .i64 0, .bool false]⟩ := by kernel_rfl
@[go_sem] theorem ti_54 : ti Tryd.prog 54 = ⟨true, .slice 67, 1, 24, [.slice none 0 0]⟩ := by kernel_rfl
@[go_sem] theorem ti_57 : ti Tryd.prog 57 = ⟨true, .struct [(0, 2), (1, 2)], 2, 16, [.int .i64 0, .int .i64 0]⟩ := by kernel_rfl
@[go_sem] theorem ti_58 : ti Tryd.prog 58 = ⟨true, .struct [(0, 2), (1, 2)], 2, 16, [.int .i64 0, .int .i64 0]⟩ := by kernel_rfl
@[go_sem] theorem ti_66 : ti Tryd.prog 66 = ⟨true, .struct [(0, 2), (1, 2)], 2, 16, [.int .i64 0, .int .i64 0]⟩ := by kernel_rfl
@[go_sem] theorem ti_67 : ti Tryd.prog 67 = ⟨true, .struct [(0, 2), (1, 2)], 2, 16, [.int .i64 0, .int .i64 0]⟩ := by kernel_rfl
@[go_sem] theorem ti_69 : ti Tryd.prog 69 = ⟨true, .slice 78, 1, 24, [.slice none 0 0]⟩ := by kernel_rfl
@[go_sem] theorem ti_77 : ti Tryd.prog 77 = ⟨true, .struct [(0, 2), (1, 2), (2, 2), (3, 2)], 4, 32, [.int .i64 0, .int .i64 0, .int .i64 0, .int .i64 0]⟩ := by kernel_rfl
@[go_sem] theorem ti_78 : ti Tryd.prog 78 = ⟨true, .struct [(0, 2), (1, 2), (2, 2), (3, 2)], 4, 32, [.int .i64 0, .int .i64 0, .int .i64 0, .int .i64 0]⟩ := by kernel_rfl
@[go_sem] theorem ti_83 : ti Tryd.prog 83 = ⟨true, .slice 89, 1, 24, [.slice none 0 0]⟩ := by kernel_rfl
@[go_sem] theorem ti_89 : ti Tryd.prog 89 = ⟨true, .slice 91, 1, 24, [.slice none 0 0]⟩ := by kernel_rfl
@[go_sem] theorem ti_90 : ti Tryd.prog 90 = ⟨true, .struct [(0, 2), (1, 2), (2, 2), (3, 2)], 4, 32, [.int .i64 0, .int .i64 0, .int .i64 0, .int .i64 0]⟩ := by kernel_rfl
@[go_sem] theorem ti_91 : ti Tryd.prog 91 = ⟨true, .struct [(0, 2), (1, 2), (2, 2), (3, 2)], 4, 32, [.int .i64 0, .int .i64 0, .int .i64 0, .int .i64 0]⟩ := by kernel_rfl
@[go_sem] theorem ti_96 : ti Tryd.prog 96 = ⟨true, .pointer 141, 1, 8, [.pointer none]⟩ := by kernel_rfl
@[go_sem] theorem ti_102 : ti Tryd.prog 102 = ⟨true, .slice 28, 1, 24, [.slice none 0 0]⟩ := by kernel_rfl
@[go_sem] theorem ti_108 : ti Tryd.prog 108 = ⟨true, .pointer 26, 1, 8, [.pointer none]⟩ := by kernel_rfl
@[go_sem] theorem ti_139 : ti Tryd.prog 139 = ⟨true, .int .u64, 1, 8, [.int .u64 0]⟩ := by kernel_rfl
@[go_sem] theorem ti_140 : ti Tryd.prog 140 = ⟨true, .struct [(0, 22), (1, 3), (2, 139)], 3, 40, [.slice none 0 0, .int .i64 0, .int .u64 0]⟩ := by kernel_rfl
@[go_sem] theorem ti_141 : ti Tryd.prog 141 = ⟨true, .struct [(0, 22), (1, 3), (2, 139)], 3, 40, [.slice none 0 0, .int .i64 0, .int .u64 0]⟩ := by kernel_rfl
@[go_sem] theorem ti_145 : ti Tryd.prog 145 = ⟨true, .slice 9, 1, 24, [.slice none 0 0]⟩ := by kernel_rfl
@[go_sem] theorem ti_162 : ti Tryd.prog 162 = ⟨true, .int .u64, 1, 8, [.int .u64 0]⟩ := by kernel_rfl
@[go_sem] theorem ti_163 : ti Tryd.prog 163 = ⟨true, .slice 165, 1, 24, [.slice none 0 0]⟩ := by kernel_rfl
@[go_sem] theorem ti_164 : ti Tryd.prog 164 = ⟨true, .struct [(0, 3), (1, 3)], 2, 16, [.int .i64 0, .int .i64 0]⟩ := by kernel_rfl
@[go_sem] theorem ti_165 : ti Tryd.prog 165 = ⟨true, .struct [(0, 3), (1, 3)], 2, 16, [.int .i64 0, .int .i64 0]⟩ := by kernel_rfl
@[go_sem] theorem ti_175 : ti Tryd.prog 175 = ⟨true, .pointer 177, 1, 8, [.pointer none]⟩ := by kernel_rfl
@[go_sem] theorem ti_176 : ti Tryd.prog 176 = ⟨true, .struct [(0, 175), (1, 22)], 2, 32, [.pointer none, .slice none 0 0]⟩ := by kernel_rfl
@[go_sem] theorem ti_177 : ti Tryd.prog 177 = ⟨true, .struct [(0, 175), (1, 22)], 2, 32, [.pointer none, .slice none 0 0]⟩ := by kernel_rfl
@[go_sem] theorem ti_187 : ti Tryd.prog 187 = ⟨true, .array 24 5, 24, 24, [.int .u8 0, .int .u8 0, .int .u8 0, .int .u8 0, .int .u8 0, .int .u8 0, .int .u8 0, .int .u8 0, .int .u8 0, .int .u8 0, .int .u8 0, .int .u8 0, .int .u8 0, .int .u8 0, .int .u8 0, .int .u8 0, .int .u8 0, .int .u8 0, .int .u8 0, .int .u8 0, .int .u8 0, .int .u8 0, .int .u8 0, .int .u8 0]⟩ := by kernel_rfl
@[go_sem] theorem ti_194 : ti Tryd.prog 194 = ⟨true, .pointer 5, 1, 8, [.pointer none]⟩ := by kernel_rfl
@[go_sem] theorem ti_195 : ti Tryd.prog 195 = ⟨true, .int .i64, 1, 8, [.int .i64 0]⟩ := by kernel_rfl
@[go_sem] theorem ti_198 : ti Tryd.prog 198 = ⟨true, .pointer 220, 1, 8, [.pointer none]⟩ := by kernel_rfl
@[go_sem] theorem ti_204 : ti Tryd.prog 204 = ⟨true, .array 20 139, 20, 160, [.int .u64 0, .int .u64 0, .int .u64 0, .int .u64 0, .int .u64 0, .int .u64 0, .int .u64 0, .int .u64 0, .int .u64 0, .int .u64 0, .int .u64 0, .int .u64 0, .int .u64 0, .int .u64 0, .int .u64 0, .int .u64 0, .int .u64 0, .int .u64 0, .int .u64 0, .int .u64 0]⟩ := by kernel_rfl
@[go_sem] theorem ti_205 : ti Tryd.prog 205 = ⟨true, .int .u32, 1, 4, [.int .u32 0]⟩ := by kernel_rfl
@[go_sem] theorem ti_206 : ti Tryd.prog 206 = ⟨true, .array 65 5, 65, 65, [.int .u8 0, .int .u8 0, .int .u8 0, .int .u8 0, .int .u8 0, .int .u8 0, .int .u8 0, .int .u8 0, .int .u8 0, .int .u8 0, .int .u8 0, .int .u8 0, .int .u8 0, .int .u8 0, .int .u8 0, .int .u8 0, .int .u8 0, .int .u8 0, .int .u8 0, .int .u8 0, .int .u8 0, .int .u8 0, .int .u8 0, .int .u8 0, .int .u8 0, .int .u8 0, .int .u8 0, .int .u8 0, .int .u8 0, .int .u8 0, .int .u8 0, .int .u8 0, .int .u8 0, .int .u8 0, .int .u8 0, .int .u8 0, .int .u8 0, .int .u8 0, .int .u8 0, .int .u8 0, .int .u8 0, .int .u8 0, .int .u8 0, .int .u8 0, .int .u8 0, .int .u8 0, .int .u8 0, .int .u8 0, .int .u8 0, .int .u8 0, .int .u8 0, .int .u8 0, .int .u8 0, .int .u8 0, .int .u8 0, .int .u8 0, .int .u8 0, .int .u8 0, .int .u8 0, .int .u8 0, .int .u8 0, .int .u8 0, .int .u8 0, .int .u8 0, .int .u8 0]⟩ := by kernel_rfl
@[go_sem] theorem ti_212 : ti Tryd.prog 212 = ⟨true, .array 256 5, 256, 256, [.int .u8 0, .int .u8 0, .int .u8 0, .int .u8 0, .int .u8 0, .int .u8 0, .int .u8 0, .int .u8 0, .int .u8 0, .int .u8 0, .int .u8 0, .int .u8 0, .int .u8 0, .int .u8 0, .int .u8 0, .int .u8 0, .int .u8 0, .int .u8 0, .int .u8 0, .int .u8 0, .int .u8 0, .int .u8 0, .int .u8 0, .int .u8 0, .int .u8 0, .int .u8 0, .int .u8 0, .int .u8 0, .int .u8 0, .int .u8 0, .int .u8 0, .int .u8 0, .int .u8 0, .int .u8 0, .int .u8 0, .int .u8 0, .int .u8 0, .int .u8 0, .int .u8 0, .int .u8 0, .int .u8 0, .int .u8 0, .int .u8 0, .int .u8 0, .int .u8 0, .int .u8 0, .int .u8 0, .int .u8 0, .int .u8 0, .int .u8 0, .int .u8 0, .int .u8 0, .int .u8 0, .int .u8 0, .int .u8 0, .int .u8 0, .int .u8 0, .int .u8 0, .int .u8 0, .int .u8 0, .int .u8 0, .int .u8 0, .int .u8 0, .int .u8 0, .int .u8 0, .int .u8 0, .int .u8 0, .int .u8 0, .int .u8 0, .int .u8 0, .int .u8 0, .int .u8 0, .int .u8 0, .int .u8 0, .int .u8 0, .int .u8 0, .int .u8 0, .int .u8 0, .int .u8 0, .int .u8 0, .int .u8 0, .int .u8 0, .int .u8 0, .int .u8 0, .int .u8 0, .int .u8 0, .int .u8 0, .int .u8 0, .int .u8 0, .int .u8 0, .int .u8 0, .int .u8 0, .int .u8 0, .int .u8 0, .int .u8 0, .int .u8 0, .int .u8 0, .int .u8 0, .int .u8 0, .int .u8 0, .int .u8 0, .int .u8 0, .int .u8 0, .int .u8 0, .int .u8 0, .int .u8 0, .int .u8 0, .int .u8 0, .int .u8 0, .int .u8 0, .int .u8 0, .int .u8 0, .int .u8 0, .int .u8 0, .int .u8 0, .int .u8 0, .int .u8 0, .int .u8 0, .int .u8 0, .int .u8 0, .int .u8 0, .int .u8 0, .int .u8 0, .int .u8 0, .int .u8 0, .int .u8 0, .int .u8 0, .int .u8 0, .int .u8 0, .int .u8 0, .int .u8 0, .int .u8 0, .int .u8 0, .int .u8 0, .int .u8 0, .int .u8 0, .int .u8 0, .int .u8 0, .int .u8 0, .int .u8 0, .int .u8 0, .int .u8 0, .int .u8 0, .int .u8 0, .int .u8 0, .int .u8 0, .int .u8 0, .int .u8 0, .int .u8 0, .int .u8 0, .int .u8 0, .int .u8 0, .int .u8 0, .int .u8 0, .int .u8 0, .int .u8 0, .int .u8 0, .int .u8 0, .int .u8 0, .int .u8 0, .int .u8 0, .int .u8 0, .int .u8 0, .int .u8 0, .int .u8 0, .int .u8 0, .int .u8 0, .int .u8 0, .int .u8 0, .int .u8 0, .int .u8 0, .int .u8 0, .int .u8 0, .int .u8 0, .int .u8 0, .int .u8 0, .int .u8 0, .int .u8 0, .int .u8 0, .int .u8 0, .int .u8 0, .int .u8 0, .int .u8 0, .int .u8 0, .int .u8 0, .int .u8 0, .int .u8 0, .int .u8 0, .int .u8 0, .int .u8 0, .int .u8 0, .int .u8 0, .int .u8 0, .int .u8 0, .int .u8 0, .int .u8 0, .int .u8 0, .int .u8 0, .int .u8 0, .int .u8 0, .int .u8 0, .int .u8 0, .int .u8 0, .int .u8 0, .int .u8 0, .int .u8 0, .int .u8 0, .int .u8 0, .int .u8 0, .int .u8 0, .int .u8 0, .int .u8 0, .int .u8 0, .int .u8 0, .int .u8 0, .int .u8 0, .int .u8 0, .int .u8 0, .int .u8 0, .int .u8 0, .int .u8 0, .int .u8 0, .int .u8 0, .int .u8 0, .int .u8 0, .int .u8 0, .int .u8 0, .int .u8 0, .int .u8 0, .int .u8 0, .int .u8 0, .int .u8 0, .int .u8 0, .int .u8 0, .int .u8 0, .int .u8 0, .int .u8 0, .int .u8 0, .int .u8 0, .int .u8 0, .int .u8 0, .int .u8 0, .int .u8 0, .int .u8 0, .int .u8 0, .int .u8 0, .int .u8 0, .int .u8 0, .int .u8 0, .int .u8 0, .int .u8 0, .int .u8 0, .int .u8 0, .int .u8 0, .int .u8 0, .int .u8 0]⟩ := by kernel_rfl
@[go_sem] theorem ti_213 : ti Tryd.prog 213 = ⟨true, .struct [(0, 5), (1, 5)], 2, 2, [.int .u8 0, .int .u8 0]⟩ := by kernel_rfl
@[go_sem] theorem ti_214 : ti Tryd.prog 214 = ⟨true, .struct [(0, 5), (1, 5)], 2, 2, [.int .u8 0, .int .u8 0]⟩ := by kernel_rfl
@[go_sem] theorem ti_215 : ti Tryd.prog 215 = ⟨true, .array 16 214, 32, 32, [.int .u8 0, .int .u8 0, .int .u8 0, .int .u8 0, .int .u8 0, .int .u8 0, .int .u8 0, .int .u8 0, .int .u8 0, .int .u8 0, .int .u8 0, .int .u8 0, .int .u8 0, .int .u8 0, .int .u8 0, .int .u8 0, .int .u8 0, .int .u8 0, .int .u8 0, .int .u8 0, .int .u8 0, .int .u8 0, .int .u8 0, .int .u8 0, .int .u8 0, .int .u8 0, .int .u8 0, .int .u8 0, .int .u8 0, .int .u8 0, .int .u8 0, .int .u8 0]⟩ := by kernel_rfl
@[go_sem] theorem ti_219 : ti Tryd.prog 219 = ⟨true, .struct [(0, 9), (1, 9), (2, 167)], 3, 48, [.string ⟨#[]⟩, .string ⟨#[]⟩, .nilIface]⟩ := by kernel_rfl
@[go_sem] theorem ti_220 : ti Tryd.prog 220 = ⟨true, .struct [(0, 9), (1, 9), (2, 167)], 3, 48, [.string ⟨#[]⟩, .string ⟨#[]⟩, .nilIface]⟩ := by kernel_rfl
@[go_sem] theorem ti_225 : ti Tryd.prog 225 = ⟨true, .pointer 227, 1, 8, [.pointer none]⟩ := by kernel_rfl
@[go_sem] theorem ti_226 : ti Tryd.prog 226 = ⟨true, .struct [(0, 9)], 1, 16, [.string ⟨#[]⟩]⟩ := by kernel_rfl
@[go_sem] theorem ti_227 : ti Tryd.prog 227 = ⟨true, .struct [(0, 9)], 1, 16, [.string ⟨#[]⟩]⟩ := by kernel_rfl
@[go_sem] theorem ti_228 : ti Tryd.prog 228 = ⟨true, .array 32 5, 32, 32, [.int .u8 0, .int .u8 0, .int .u8 0, .int .u8 0, .int .u8 0, .int .u8 0, .int .u8 0, .int .u8 0, .int .u8 0, .int .u8 0, .int .u8 0, .int .u8 0, .int .u8 0, .int .u8 0, .int .u8 0, .int .u8 0, .int .u8 0, .int .u8 0, .int .u8 0, .int .u8 0, .int .u8 0, .int .u8 0, .int .u8 0, .int .u8 0, .int .u8 0, .int .u8 0, .int .u8 0, .int .u8 0, .int .u8 0, .int .u8 0, .int .u8 0, .int .u8 0]⟩ := by kernel_rfl
@[go_sem] theorem ti_229 : ti Tryd.prog 229 = ⟨true, .array 64 5, 64, 64, [.int .u8 0, .int .u8 0, .int .u8 0, .int .u8 0, .int .u8 0, .int .u8 0, .int .u8 0, .int .u8 0, .int .u8 0, .int .u8 0, .int .u8 0, .int .u8 0, .int .u8 0, .int .u8 0, .int .u8 0, .int .u8 0, .int .u8 0, .int .u8 0, .int .u8 0, .int .u8 0, .int .u8 0, .int .u8 0, .int .u8 0, .int .u8 0, .int .u8 0, .int .u8 0, .int .u8 0, .int .u8 0, .int .u8 0, .int .u8 0, .int .u8 0, .int .u8 0, .int .u8 0, .int .u8 0, .int .u8 0, .int .u8 0, .int .u8 0, .int .u8 0, .int .u8 0, .int .u8 0, .int .u8 0, .int .u8 0, .int .u8 0, .int .u8 0, .int .u8 0, .int .u8 0, .int .u8 0, .int .u8 0, .int .u8 0, .int .u8 0, .int .u8 0, .int .u8 0, .int .u8 0, .int .u8 0, .int .u8 0, .int .u8 0, .int .u8 0, .int .u8 0, .int .u8 0, .int .u8 0, .int .u8 0, .int .u8 0, .int .u8 0, .int .u8 0]⟩ := by kernel_rfl
@[go_sem] theorem ti_230 : ti Tryd.prog 230 = ⟨true, .struct [(0, 17), (1, 17), (2, 17), (3, 9)], 4, 40, [.pointer none, .pointer none, .pointer none, .string ⟨#[]⟩]⟩ := by kernel_rfl
@[go_sem] theorem ti_231 : ti Tryd.prog 231 = ⟨true, .struct [(0, 17), (1, 17), (2, 17), (3, 9)], 4, 40, [.pointer none, .pointer none, .pointer none, .string ⟨#[]⟩]⟩ := by kernel_rfl
@[go_sem] theorem ti_232 : ti Tryd.prog 232 = ⟨true, .array 0 16, 0, 0, []⟩ := by kernel_rfl
@[go_sem] theorem ti_233 : ti Tryd.prog 233 = ⟨true, .struct [(0, 232)], 0, 0, []⟩ := by kernel_rfl
@[go_sem] theorem ti_234 : ti Tryd.prog 234 = ⟨true, .struct [(0, 232)], 0, 0, []⟩ := by kernel_rfl
@[go_sem] theorem ti_236 : ti Tryd.prog 236 = ⟨true, .int .u8, 1, 1, [.int .u8 0]⟩ := by kernel_rfl
@[go_sem] theorem ti_237 : ti Tryd.prog 237 = ⟨true, .int .u8, 1, 1, [.int .u8 0]⟩ := by kernel_rfl
@[go_sem] theorem ti_239 : ti Tryd.prog 239 = ⟨true, .int .i32, 1, 4, [.int .i32 0]⟩ := by kernel_rfl
@[go_sem] theorem ti_240 : ti Tryd.prog 240 = ⟨true, .int .i32, 1, 4, [.int .i32 0]⟩ := by kernel_rfl
@[go_sem] theorem ti_241 : ti Tryd.prog 241 = ⟨true, .struct [(0, 12), (1, 12), (2, 205), (3, 236), (4, 5), (5, 5), (6, 237), (7, 238), (8, 194), (9, 239), (10, 240)], 11, 48, [.int .u64 0, .int .u64 0, .int .u32 0, .int .u8 0, .int .u8 0, .int .u8 0, .int .u8 0, .nilFunc, .pointer none, .int .i32 0, .int .i32 0]⟩ := by kernel_rfl
@[go_sem] theorem ti_242 : ti Tryd.prog 242 = ⟨true, .struct [(0, 12), (1, 12), (2, 205), (3, 236), (4, 5), (5, 5), (6, 237), (7, 238), (8, 194), (9, 239), (10, 240)], 11, 48, [.int .u64 0, .int .u64 0, .int .u32 0, .int .u8 0, .int .u8 0, .int .u8 0, .int .u8 0, .nilFunc, .pointer none, .int .i32 0, .int .i32 0]⟩ := by kernel_rfl
@[go_sem] theorem eqi_27 : eqInfo Tryd.prog 27 = some [(0, 2), (1, 2)] := by kernel_rfl
@[go_sem] theorem eqi_28 : eqInfo Tryd.prog 28 = some [(0, 2), (1, 2)] := by kernel_rfl
@[go_sem] theorem eqi_42 : eqInfo Tryd.prog 42 = some [(0, 2), (1, 4)] := by kernel_rfl
@[go_sem] theorem eqi_43 : eqInfo Tryd.prog 43 = some [(0, 2), (1, 4)] := by kernel_rfl
@[go_sem] theorem eqi_57 : eqInfo Tryd.prog 57 = some [(0, 2), (1, 2)] := by kernel_rfl
@[go_sem] theorem eqi_58 : eqInfo Tryd.prog 58 = some [(0, 2), (1, 2)] := by kernel_rfl
@[go_sem] theorem eqi_66 : eqInfo Tryd.prog 66 = some [(0, 2), (1, 2)] := by kernel_rfl
@[go_sem] theorem eqi_67 : eqInfo Tryd.prog 67 = some [(0, 2), (1, 2)] := by kernel_rfl
@[go_sem] theorem eqi_77 : eqInfo Tryd.prog 77 = some [(0, 2), (1, 2), (2, 2), (3, 2)] := by kernel_rfl
@[go_sem] theorem eqi_78 : eqInfo Tryd.prog 78 = some [(0, 2), (1, 2), (2, 2), (3, 2)] := by kernel_rfl
@[go_sem] theorem eqi_90 : eqInfo Tryd.prog 90 = some [(0, 2), (1, 2), (2, 2), (3, 2)] := by kernel_rfl
@[go_sem] theorem eqi_91 : eqInfo Tryd.prog 91 = some [(0, 2), (1, 2), (2, 2), (3, 2)] := by kernel_rfl
theorem mixed : Tryd.prog.follows .mixedOrders = true := by kernel_rfl
end Go.Proofs.YtnphbdcdncmojaaDoor
