/-
  AG, part T: what the program says of its types, row by row, for simp. Conditions: none. Written by a program (gen_t.py).
-/
import Derived.Test.YtneokdflhleidaaDoorProg
import Derived.Test.YtneokdflhleidaaDoorAgQ
import Derived.KernelRfl
namespace Go.Proofs.YtneokdflhleidaaDoor
open Go.AG
@[go_sem] theorem ti_2 : ti Tryd.prog 2 = ⟨true, .int .i64, 1, 8, [.int .i64 0]⟩ := by kernel_rfl
@[go_sem] theorem ti_3 : ti Tryd.prog 3 = ⟨true, .int .i64, 1, 8, [.int .i64 0]⟩ := by kernel_rfl
@[go_sem] theorem ti_4 : ti Tryd.prog 4 = ⟨true, .bool, 1, 1, [.bool false]⟩ := by kernel_rfl
@[go_sem] theorem ti_5 : ti Tryd.prog 5 = ⟨true, .int .u8, 1, 1, [.int .u8 0]⟩ := by kernel_rfl
@[go_sem] theorem ti_6 : ti Tryd.prog 6 = ⟨true, .int .u8, 1, 1, [.int .u8 0]⟩ := by kernel_rfl
@[go_sem] theorem ti_7 : ti Tryd.prog 7 = ⟨true, .struct [(0, 2), (1, 3), (2, 4), (3, 6)], 4, 24, [.int .i64 0, .int .i64 0, .bool false, .int .u8 0]⟩ := by kernel_rfl
@[go_sem] theorem ti_8 : ti Tryd.prog 8 = ⟨true, .struct [(0, 2), (1, 3), (2, 4), (3, 6)], 4, 24, [.int .i64 0, .int .i64 0, .bool false, .int .u8 0]⟩ := by kernel_rfl
@[go_sem] theorem ti_9 : ti Tryd.prog 9 = ⟨true, .string, 1, 16, [.string ⟨#[]⟩]⟩ := by kernel_rfl
@[go_sem] theorem ti_10 : ti Tryd.prog 10 = ⟨true, .string, 1, 16, [.string ⟨#[]⟩]⟩ := by kernel_rfl
@[go_sem] theorem ti_11 : ti Tryd.prog 11 = ⟨true, .string, 1, 16, [.string ⟨#[]⟩]⟩ := by kernel_rfl
@[go_sem] theorem ti_12 : ti Tryd.prog 12 = ⟨true, .int .u64, 1, 8, [.int .u64 0]⟩ := by kernel_rfl
@[go_sem] theorem ti_13 : ti Tryd.prog 13 = ⟨true, .struct [(0, 9), (1, 12)], 2, 24, [.string ⟨#[]⟩, .int .u64 0]⟩ := by kernel_rfl
@[go_sem] theorem ti_14 : ti Tryd.prog 14 = ⟨true, .struct [(0, 9), (1, 12)], 2, 24, [.string ⟨#[]⟩, .int .u64 0]⟩ := by kernel_rfl
@[go_sem] theorem ti_15 : ti Tryd.prog 15 = ⟨true, .pointer 192, 1, 8, [.pointer none]⟩ := by kernel_rfl
@[go_sem] theorem ti_16 : ti Tryd.prog 16 = ⟨true, .pointer 195, 1, 8, [.pointer none]⟩ := by kernel_rfl
@[go_sem] theorem ti_17 : ti Tryd.prog 17 = ⟨true, .pointer 203, 1, 8, [.pointer none]⟩ := by kernel_rfl
@[go_sem] theorem ti_18 : ti Tryd.prog 18 = ⟨true, .struct [(0, 17)], 1, 8, [.pointer none]⟩ := by kernel_rfl
@[go_sem] theorem ti_19 : ti Tryd.prog 19 = ⟨true, .struct [(0, 17)], 1, 8, [.pointer none]⟩ := by kernel_rfl
@[go_sem] theorem ti_21 : ti Tryd.prog 21 = ⟨true, .int .i32, 1, 4, [.int .i32 0]⟩ := by kernel_rfl
@[go_sem] theorem ti_22 : ti Tryd.prog 22 = ⟨true, .slice 5, 1, 24, [.slice none 0 0]⟩ := by kernel_rfl
@[go_sem] theorem ti_24 : ti Tryd.prog 24 = ⟨true, .slice 39, 1, 24, [.slice none 0 0]⟩ := by kernel_rfl
@[go_sem] theorem ti_34 : ti Tryd.prog 34 = ⟨true, .slice 2, 1, 24, [.slice none 0 0]⟩ := by kernel_rfl
@[go_sem] theorem ti_38 : ti Tryd.prog 38 = ⟨true, .struct [(0, 2), (1, 2), (2, 2), (3, 2)], 4, 32, [.int .i64 0, .int .i64 0, .int .i64 0, .int .i64 0]⟩ := by kernel_rfl
@[go_sem] theorem ti_39 : ti Tryd.prog 39 = ⟨true, .struct [(0, 2), (1, 2), (2, 2), (3, 2)], 4, 32, [.int .i64 0, .int .i64 0, .int .i64 0, .int .i64 0]⟩ := by kernel_rfl
@[go_sem] theorem ti_44 : ti Tryd.prog 44 = ⟨true, .slice 47, 1, 24, [.slice none 0 0]⟩ := by kernel_rfl
@[go_sem] theorem ti_46 : ti Tryd.prog 46 = ⟨true, .struct [(0, 2), (1, 2), (2, 2), (3, 2)], 4, 32, [.int .i64 0, .int .i64 0, .int .i64 0, .int .i64 0]⟩ := by kernel_rfl
@[go_sem] theorem ti_47 : ti Tryd.prog 47 = ⟨true, .struct [(0, 2), (1, 2), (2, 2), (3, 2)], 4, 32, [.int .i64 0, .int .i64 0, .int .i64 0, .int .i64 0]⟩ := by kernel_rfl
@[go_sem] theorem ti_60 : ti Tryd.prog 60 = ⟨true, .slice 66, 1, 24, [.slice none 0 0]⟩ := by kernel_rfl
@[go_sem] theorem ti_66 : ti Tryd.prog 66 = ⟨true, .slice 68, 1, 24, [.slice none 0 0]⟩ := by kernel_rfl
@[go_sem] theorem ti_67 : ti Tryd.prog 67 = ⟨true, .struct [(0, 2), (1, 2), (2, 2), (3, 2)], 4, 32, [.int .i64 0, .int .i64 0, .int .i64 0, .int .i64 0]⟩ := by kernel_rfl
@[go_sem] theorem ti_68 : ti Tryd.prog 68 = ⟨true, .struct [(0, 2), (1, 2), (2, 2), (3, 2)], 4, 32, [.int .i64 0, .int .i64 0, .int .i64 0, .int .i64 0]⟩ := by kernel_rfl
@[go_sem] theorem ti_74 : ti Tryd.prog 74 = ⟨true, .pointer 107, 1, 8, [.pointer none]⟩ := by kernel_rfl
@[go_sem] theorem ti_105 : ti Tryd.prog 105 = ⟨true, .int .u64, 1, 8, [.int .u64 0]⟩ := by kernel_rfl
@[go_sem] theorem ti_106 : ti Tryd.prog 106 = ⟨true, .struct [(0, 22), (1, 3), (2, 105)], 3, 40, [.slice none 0 0, .int .i64 0, .int .u64 0]⟩ := by kernel_rfl
@[go_sem] theorem ti_107 : ti Tryd.prog 107 = ⟨true, .struct [(0, 22), (1, 3), (2, 105)], 3, 40, [.slice none 0 0, .int .i64 0, .int .u64 0]⟩ := by kernel_rfl
@[go_sem] theorem ti_109 : ti Tryd.prog 109 = ⟨true, .slice 9, 1, 24, [.slice none 0 0]⟩ := by kernel_rfl
@[go_sem] theorem ti_115 : ti Tryd.prog 115 = ⟨true, .array 6 9, 6, 96, [.string ⟨#[]⟩, .string ⟨#[]⟩, .string ⟨#[]⟩, .string ⟨#[]⟩, .string ⟨#[]⟩, .string ⟨#[]⟩]⟩ := by kernel_rfl
@[go_sem] theorem ti_118 : ti Tryd.prog 118 = ⟨true, .array 6 2, 6, 48, [.int .i64 0, .int .i64 0, .int .i64 0, .int .i64 0, .int .i64 0, .int .i64 0]⟩ := by kernel_rfl
@[go_sem] theorem ti_125 : ti Tryd.prog 125 = ⟨true, .slice 127, 1, 24, [.slice none 0 0]⟩ := by kernel_rfl
@[go_sem] theorem ti_126 : ti Tryd.prog 126 = ⟨true, .struct [(0, 3), (1, 3)], 2, 16, [.int .i64 0, .int .i64 0]⟩ := by kernel_rfl
@[go_sem] theorem ti_127 : ti Tryd.prog 127 = ⟨true, .struct [(0, 3), (1, 3)], 2, 16, [.int .i64 0, .int .i64 0]⟩ := by kernel_rfl
@[go_sem] theorem ti_133 : ti Tryd.prog 133 = ⟨true, .int .u64, 1, 8, [.int .u64 0]⟩ := by kernel_rfl
@[go_sem] theorem ti_137 : ti Tryd.prog 137 = ⟨true, .pointer 139, 1, 8, [.pointer none]⟩ := by kernel_rfl
@[go_sem] theorem ti_138 : ti Tryd.prog 138 = ⟨true, .struct [(0, 137), (1, 22)], 2, 32, [.pointer none, .slice none 0 0]⟩ := by kernel_rfl
@[go_sem] theorem ti_139 : ti Tryd.prog 139 = ⟨true, .struct [(0, 137), (1, 22)], 2, 32, [.pointer none, .slice none 0 0]⟩ := by kernel_rfl
@[go_sem] theorem ti_148 : ti Tryd.prog 148 = ⟨true, .array 24 5, 24, 24, [.int .u8 0, .int .u8 0, .int .u8 0, .int .u8 0, .int .u8 0, .int .u8 0, .int .u8 0, .int .u8 0, .int .u8 0, .int .u8 0, .int .u8 0, .int .u8 0, .int .u8 0, .int .u8 0, .int .u8 0, .int .u8 0, .int .u8 0, .int .u8 0, .int .u8 0, .int .u8 0, .int .u8 0, .int .u8 0, .int .u8 0, .int .u8 0]⟩ := by kernel_rfl
@[go_sem] theorem ti_155 : ti Tryd.prog 155 = ⟨true, .pointer 5, 1, 8, [.pointer none]⟩ := by kernel_rfl
@[go_sem] theorem ti_156 : ti Tryd.prog 156 = ⟨true, .int .i64, 1, 8, [.int .i64 0]⟩ := by kernel_rfl
@[go_sem] theorem ti_159 : ti Tryd.prog 159 = ⟨true, .pointer 181, 1, 8, [.pointer none]⟩ := by kernel_rfl
@[go_sem] theorem ti_165 : ti Tryd.prog 165 = ⟨true, .array 20 105, 20, 160, [.int .u64 0, .int .u64 0, .int .u64 0, .int .u64 0, .int .u64 0, .int .u64 0, .int .u64 0, .int .u64 0, .int .u64 0, .int .u64 0, .int .u64 0, .int .u64 0, .int .u64 0, .int .u64 0, .int .u64 0, .int .u64 0, .int .u64 0, .int .u64 0, .int .u64 0, .int .u64 0]⟩ := by kernel_rfl
@[go_sem] theorem ti_166 : ti Tryd.prog 166 = ⟨true, .int .u32, 1, 4, [.int .u32 0]⟩ := by kernel_rfl
@[go_sem] theorem ti_167 : ti Tryd.prog 167 = ⟨true, .array 65 5, 65, 65, [.int .u8 0, .int .u8 0, .int .u8 0, .int .u8 0, .int .u8 0, .int .u8 0, .int .u8 0, .int .u8 0, .int .u8 0, .int .u8 0, .int .u8 0, .int .u8 0, .int .u8 0, .int .u8 0, .int .u8 0, .int .u8 0, .int .u8 0, .int .u8 0, .int .u8 0, .int .u8 0, .int .u8 0, .int .u8 0, .int .u8 0, .int .u8 0, .int .u8 0, .int .u8 0, .int .u8 0, .int .u8 0, .int .u8 0, .int .u8 0, .int .u8 0, .int .u8 0, .int .u8 0, .int .u8 0, .int .u8 0, .int .u8 0, .int .u8 0, .int .u8 0, .int .u8 0, .int .u8 0, .int .u8 0, .int .u8 0, .int .u8 0, .int .u8 0, .int .u8 0, .int .u8 0, .int .u8 0, .int .u8 0, .int .u8 0, .int .u8 0, .int .u8 0, .int .u8 0, .int .u8 0, .int .u8 0, .int .u8 0, .int .u8 0, .int .u8 0, .int .u8 0, .int .u8 0, .int .u8 0, .int .u8 0, .int .u8 0, .int .u8 0, .int .u8 0, .int .u8 0]⟩ := by kernel_rfl
@[go_sem] theorem ti_173 : ti Tryd.prog 173 = ⟨true, .array 256 5, 256, 256, [.int .u8 0, .int .u8 0, .int .u8 0, .int .u8 0, .int .u8 0, .int .u8 0, .int .u8 0, .int .u8 0, .int .u8 0, .int .u8 0, .int .u8 0, .int .u8 0, .int .u8 0, .int .u8 0, .int .u8 0, .int .u8 0, .int .u8 0, .int .u8 0, .int .u8 0, .int .u8 0, .int .u8 0, .int .u8 0, .int .u8 0, .int .u8 0, .int .u8 0, .int .u8 0, .int .u8 0, .int .u8 0, .int .u8 0, .int .u8 0, .int .u8 0, .int .u8 0, .int .u8 0, .int .u8 0, .int .u8 0, .int .u8 0, .int .u8 0, .int .u8 0, .int .u8 0, .int .u8 0, .int .u8 0, .int .u8 0, .int .u8 0, .int .u8 0, .int .u8 0, .int .u8 0, .int .u8 0, .int .u8 0, .int .u8 0, .int .u8 0, .int .u8 0, .int .u8 0, .int .u8 0, .int .u8 0, .int .u8 0, .int .u8 0, .int .u8 0, .int .u8 0, .int .u8 0, .int .u8 0, .int .u8 0, .int .u8 0, .int .u8 0, .int .u8 0, .int .u8 0, .int .u8 0, .int .u8 0, .int .u8 0, .int .u8 0, .int .u8 0, .int .u8 0, .int .u8 0, .int .u8 0, .int .u8 0, .int .u8 0, .int .u8 0, .int .u8 0, .int .u8 0, .int .u8 0, .int .u8 0, .int .u8 0, .int .u8 0, .int .u8 0, .int .u8 0, .int .u8 0, .int .u8 0, .int .u8 0, .int .u8 0, .int .u8 0, .int .u8 0, .int .u8 0, .int .u8 0, .int .u8 0, .int .u8 0, .int .u8 0, .int .u8 0, .int .u8 0, .int .u8 0, .int .u8 0, .int .u8 0, .int .u8 0, .int .u8 0, .int .u8 0, .int .u8 0, .int .u8 0, .int .u8 0, .int .u8 0, .int .u8 0, .int .u8 0, .int .u8 0, .int .u8 0, .int .u8 0, .int .u8 0, .int .u8 0, .int .u8 0, .int .u8 0, .int .u8 0, .int .u8 0, .int .u8 0, .int .u8 0, .int .u8 0, .int .u8 0, .int .u8 0, .int .u8 0, .int .u8 0, .int .u8 0, .int .u8 0, .int .u8 0, .int .u8 0, .int .u8 0, .int .u8 0, .int .u8 0, .int .u8 0, .int .u8 0, .int .u8 0, .int .u8 0, .int .u8 0, .int .u8 0, .int .u8 0, .int .u8 0, .int .u8 0, .int .u8 0, .int .u8 0, .int .u8 0, .int .u8 0, .int .u8 0, .int .u8 0, .int .u8 0, .int .u8 0, .int .u8 0, .int .u8 0, .int .u8 0, .int .u8 0, .int .u8 0, .int .u8 0, .int .u8 0, .int .u8 0, .int .u8 0, .int .u8 0, .int .u8 0, .int .u8 0, .int .u8 0, .int .u8 0, .int .u8 0, .int .u8 0, .int .u8 0, .int .u8 0, .int .u8 0, .int .u8 0, .int .u8 0, .int .u8 0, .int .u8 0, .int .u8 0, .int .u8 0, .int .u8 0, .int .u8 0, .int .u8 0, .int .u8 0, .int .u8 0, .int .u8 0, .int .u8 0, .int .u8 0, .int .u8 0, .int .u8 0, .int .u8 0, .int .u8 0, .int .u8 0, .int .u8 0, .int .u8 0, .int .u8 0, .int .u8 0, .int .u8 0, .int .u8 0, .int .u8 0, .int .u8 0, .int .u8 0, .int .u8 0, .int .u8 0, .int .u8 0, .int .u8 0, .int .u8 0, .int .u8 0, .int .u8 0, .int .u8 0, .int .u8 0, .int .u8 0, .int .u8 0, .int .u8 0, .int .u8 0, .int .u8 0, .int .u8 0, .int .u8 0, .int .u8 0, .int .u8 0, .int .u8 0, .int .u8 0, .int .u8 0, .int .u8 0, .int .u8 0, .int .u8 0, .int .u8 0, .int .u8 0, .int .u8 0, .int .u8 0, .int .u8 0, .int .u8 0, .int .u8 0, .int .u8 0, .int .u8 0, .int .u8 0, .int .u8 0, .int .u8 0, .int .u8 0, .int .u8 0, .int .u8 0, .int .u8 0, .int .u8 0, .int .u8 0, .int .u8 0, .int .u8 0, .int .u8 0, .int .u8 0, .int .u8 0, .int .u8 0, .int .u8 0, .int .u8 0, .int .u8 0, .int .u8 0, .int .u8 0, .int .u8 0, .int .u8 0, .int .u8 0, .int .u8 0, .int .u8 0, .int .u8 0, .int .u8 0]⟩ := by kernel_rfl
@[go_sem] theorem ti_174 : ti Tryd.prog 174 = ⟨true, .struct [(0, 5), (1, 5)], 2, 2, [.int .u8 0, .int .u8 0]⟩ := by kernel_rfl
@[go_sem] theorem ti_175 : ti Tryd.prog 175 = ⟨true, .struct [(0, 5), (1, 5)], 2, 2, [.int .u8 0, .int .u8 0]⟩ := by kernel_rfl
@[go_sem] theorem ti_176 : ti Tryd.prog 176 = ⟨true, .array 16 175, 32, 32, [.int .u8 0, .int .u8 0, .int .u8 0, .int .u8 0, .int .u8 0, .int .u8 0, .int .u8 0, .int .u8 0, .int .u8 0, .int .u8 0, .int .u8 0, .int .u8 0, .int .u8 0, .int .u8 0, .int .u8 0, .int .u8 0, .int .u8 0, .int .u8 0, .int .u8 0, .int .u8 0, .int .u8 0, .int .u8 0, .int .u8 0, .int .u8 0, .int .u8 0, .int .u8 0, .int .u8 0, .int .u8 0, .int .u8 0, .int .u8 0, .int .u8 0, .int .u8 0]⟩ := by kernel_rfl
@[go_sem] theorem ti_180 : ti Tryd.prog 180 = ⟨true, .struct [(0, 9), (1, 9), (2, 129)], 3, 48, [.string ⟨#[]⟩, .string ⟨#[]⟩, .nilIface]⟩ := by kernel_rfl
@[go_sem] theorem ti_181 : ti Tryd.prog 181 = ⟨true, .struct [(0, 9), (1, 9), (2, 129)], 3, 48, [.string ⟨#[]⟩, .string ⟨#[]⟩, .nilIface]⟩ := by kernel_rfl
@[go_sem] theorem ti_186 : ti Tryd.prog 186 = ⟨true, .pointer 188, 1, 8, [.pointer none]⟩ := by kernel_rfl
@[go_sem] theorem ti_187 : ti Tryd.prog 187 = ⟨true, .struct [(0, 9)], 1, 16, [.string ⟨#[]⟩]⟩ := by kernel_rfl
@[go_sem] theorem ti_188 : ti Tryd.prog 188 = ⟨true, .struct [(0, 9)], 1, 16, [.string ⟨#[]⟩]⟩ := by kernel_rfl
@[go_sem] theorem ti_189 : ti Tryd.prog 189 = ⟨true, .array 32 5, 32, 32, [.int .u8 0, .int .u8 0, .int .u8 0, .int .u8 0, .int .u8 0, .int .u8 0, .int .u8 0, .int .u8 0, .int .u8 0, .int .u8 0, .int .u8 0, .int .u8 0, .int .u8 0, .int .u8 0, .int .u8 0, .int .u8 0, .int .u8 0, .int .u8 0, .int .u8 0, .int .u8 0, .int .u8 0, .int .u8 0, .int .u8 0, .int .u8 0, .int .u8 0, .int .u8 0, .int .u8 0, .int .u8 0, .int .u8 0, .int .u8 0, .int .u8 0, .int .u8 0]⟩ := by kernel_rfl
@[go_sem] theorem ti_190 : ti Tryd.prog 190 = ⟨true, .array 64 5, 64, 64, [.int .u8 0, .int .u8 0, .int .u8 0, .int .u8 0, .int .u8 0, .int .u8 0, .int .u8 0, .int .u8 0, .int .u8 0, .int .u8 0, .int .u8 0, .int .u8 0, .int .u8 0, .int .u8 0, .int .u8 0, .int .u8 0, .int .u8 0, .int .u8 0, .int .u8 0, .int .u8 0, .int .u8 0, .int .u8 0, .int .u8 0, .int .u8 0, .int .u8 0, .int .u8 0, .int .u8 0, .int .u8 0, .int .u8 0, .int .u8 0, .int .u8 0, .int .u8 0, .int .u8 0, .int .u8 0, .int .u8 0, .int .u8 0, .int .u8 0, .int .u8 0, .int .u8 0, .int .u8 0, .int .u8 0, .int .u8 0, .int .u8 0, .int .u8 0, .int .u8 0, .int .u8 0, .int .u8 0, .int .u8 0, .int .u8 0, .int .u8 0, .int .u8 0, .int .u8 0, .int .u8 0, .int .u8 0, .int .u8 0, .int .u8 0, .int .u8 0, .int .u8 0, .int .u8 0, .int .u8 0, .int .u8 0, .int .u8 0, .int .u8 0, .int .u8 0]⟩ := by kernel_rfl
@[go_sem] theorem ti_191 : ti Tryd.prog 191 = ⟨true, .struct [(0, 17), (1, 17), (2, 17), (3, 9)], 4, 40, [.pointer none, .pointer none, .pointer none, .string ⟨#[]⟩]⟩ := by kernel_rfl
@[go_sem] theorem ti_192 : ti Tryd.prog 192 = ⟨true, .struct [(0, 17), (1, 17), (2, 17), (3, 9)], 4, 40, [.pointer none, .pointer none, .pointer none, .string ⟨#[]⟩]⟩ := by kernel_rfl
@[go_sem] theorem ti_193 : ti Tryd.prog 193 = ⟨true, .array 0 16, 0, 0, []⟩ := by kernel_rfl
@[go_sem] theorem ti_194 : ti Tryd.prog 194 = ⟨true, .struct [(0, 193)], 0, 0, []⟩ := by kernel_rfl
@[go_sem] theorem ti_195 : ti Tryd.prog 195 = ⟨true, .struct [(0, 193)], 0, 0, []⟩ := by kernel_rfl
@[go_sem] theorem ti_197 : ti Tryd.prog 197 = ⟨true, .int .u8, 1, 1, [.int .u8 0]⟩ := by kernel_rfl
@[go_sem] theorem ti_198 : ti Tryd.prog 198 = ⟨true, .int .u8, 1, 1, [.int .u8 0]⟩ := by kernel_rfl
@[go_sem] theorem ti_200 : ti Tryd.prog 200 = ⟨true, .int .i32, 1, 4, [.int .i32 0]⟩ := by kernel_rfl
@[go_sem] theorem ti_201 : ti Tryd.prog 201 = ⟨true, .int .i32, 1, 4, [.int .i32 0]⟩ := by kernel_rfl
@[go_sem] theorem ti_202 : ti Tryd.prog 202 = ⟨true, .struct [(0, 12), (1, 12), (2, 166), (3, 197), (4, 5), (5, 5), (6, 198), (7, 199), (8, 155), (9, 200), (10, 201)], 11, 48, [.int .u64 0, .int .u64 0, .int .u32 0, .int .u8 0, .int .u8 0, .int .u8 0, .int .u8 0, .nilFunc, .pointer none, .int .i32 0, .int .i32 0]⟩ := by kernel_rfl
@[go_sem] theorem ti_203 : ti Tryd.prog 203 = ⟨true, .struct [(0, 12), (1, 12), (2, 166), (3, 197), (4, 5), (5, 5), (6, 198), (7, 199), (8, 155), (9, 200), (10, 201)], 11, 48, [.int .u64 0, .int .u64 0, .int .u32 0, .int .u8 0, .int .u8 0, .int .u8 0, .int .u8 0, .nilFunc, .pointer none, .int .i32 0, .int .i32 0]⟩ := by kernel_rfl
@[go_sem] theorem eqi_38 : eqInfo Tryd.prog 38 = some [(0, 2), (1, 2), (2, 2), (3, 2)] := by kernel_rfl
@[go_sem] theorem eqi_39 : eqInfo Tryd.prog 39 = some [(0, 2), (1, 2), (2, 2), (3, 2)] := by kernel_rfl
@[go_sem] theorem eqi_46 : eqInfo Tryd.prog 46 = some [(0, 2), (1, 2), (2, 2), (3, 2)] := by kernel_rfl
@[go_sem] theorem eqi_47 : eqInfo Tryd.prog 47 = some [(0, 2), (1, 2), (2, 2), (3, 2)] := by kernel_rfl
@[go_sem] theorem eqi_67 : eqInfo Tryd.prog 67 = some [(0, 2), (1, 2), (2, 2), (3, 2)] := by kernel_rfl
@[go_sem] theorem eqi_68 : eqInfo Tryd.prog 68 = some [(0, 2), (1, 2), (2, 2), (3, 2)] := by kernel_rfl
theorem mixed : Tryd.prog.follows .mixedOrders = true := by kernel_rfl
end Go.Proofs.YtneokdflhleidaaDoor
