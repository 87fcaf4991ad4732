/-
  AG, part T: what the program says of its types, row by row, for simp. Conditions: none. Written by a program (gen_t.py).
-/
import Derived.Test.YtkflbpojkccchaaDoorProg
import Derived.Test.YtkflbpojkccchaaDoorAgQ
import Derived.KernelRfl
namespace Go.Proofs.YtkflbpojkccchaaDoor
open Go.AG
@[go_sem] theorem ti_2 : ti Tryd.prog 2 = ⟨true, .int .i64, 1, 8, [.int .i64 0]⟩ := by kernel_rfl
@[go_sem] theorem ti_3 : ti Tryd.prog 3 = ⟨true, .int .i64, 1, 8, [.int .i64 0]⟩ := by kernel_rfl
@[go_sem] theorem ti_4 : ti Tryd.prog 4 = ⟨true, .bool, 1, 1, [.bool false]⟩ := by kernel_rfl
@[go_sem] theorem ti_5 : ti Tryd.prog 5 = ⟨true, .int .u8, 1, 1, [.int .u8 0]⟩ := by kernel_rfl
@[go_sem] theorem ti_6 : ti Tryd.prog 6 = ⟨true, .int .u8, 1, 1, [.int .u8 0]⟩ := by kernel_rfl
@[go_sem] theorem ti_7 : ti Tryd.prog 7 = ⟨true, .struct [(0, 2), (1, 3), (2, 4), (3, 6)], 4, 24, [.int .i64 0, .int .i64 0, .bool false, .int .u8 0]⟩ := by kernel_rfl
@[go_sem] theorem ti_8 : ti Tryd.prog 8 = ⟨true, .struct [(0, 2), (1, 3), (2, 4), (3, 6)], 4, 24, [.int .i64 0, .int .i64 0, .bool false, .int .u8 0]⟩ := by kernel_rfl
@[go_sem] theorem ti_9 : ti Tryd.prog 9 = ⟨true, .string, 1, 16, [.string ⟨#[]⟩]⟩ := by kernel_rfl
@[go_sem] theorem ti_10 : ti Tryd.prog 10 = ⟨true, .string, 1, 16, [.string ⟨#[]⟩]⟩ := by kernel_rfl
@[go_sem] theorem ti_11 : ti Tryd.prog 11 = ⟨true, .string, 1, 16, [.string ⟨#[]⟩]⟩ := by kernel_rfl
@[go_sem] theorem ti_12 : ti Tryd.prog 12 = ⟨true, .int .u64, 1, 8, [.int .u64 0]⟩ := by kernel_rfl
@[go_sem] theorem ti_13 : ti Tryd.prog 13 = ⟨true, .struct [(0, 9), (1, 12)], 2, 24, [.string ⟨#[]⟩, .int .u64 0]⟩ := by kernel_rfl
@[go_sem] theorem ti_14 : ti Tryd.prog 14 = ⟨true, .struct [(0, 9), (1, 12)], 2, 24, [.string ⟨#[]⟩, .int .u64 0]⟩ := by kernel_rfl
@[go_sem] theorem ti_15 : ti Tryd.prog 15 = ⟨true, .pointer 103, 1, 8, [.pointer none]⟩ := by kernel_rfl
@[go_sem] theorem ti_16 : ti Tryd.prog 16 = ⟨true, .pointer 106, 1, 8, [.pointer none]⟩ := by kernel_rfl
@[go_sem] theorem ti_17 : ti Tryd.prog 17 = ⟨true, .pointer 114, 1, 8, [.pointer none]⟩ := by kernel_rfl
@[go_sem] theorem ti_18 : ti Tryd.prog 18 = ⟨true, .struct [(0, 17)], 1, 8, [.pointer none]⟩ := by kernel_rfl
@[go_sem] theorem ti_19 : ti Tryd.prog 19 = ⟨true, .struct [(0, 17)], 1, 8, [.pointer none]⟩ := by kernel_rfl
@[go_sem] theorem ti_21 : ti Tryd.prog 21 = ⟨true, .int .i32, 1, 4, [.int .i32 0]⟩ := by kernel_rfl
@[go_sem] theorem ti_22 : ti Tryd.prog 22 = ⟨true, .slice 5, 1, 24, [.slice none 0 0]⟩ := by kernel_rfl
@[go_sem] theorem ti_24 : ti Tryd.prog 24 = ⟨true, .slice 37, 1, 24, [.slice none 0 0]⟩ := by kernel_rfl
@[go_sem] theorem ti_26 : ti Tryd.prog 26 = ⟨true, .slice 2, 1, 24, [.slice none 0 0]⟩ := by kernel_rfl
@[go_sem] theorem ti_36 : ti Tryd.prog 36 = ⟨true, .struct [(0, 2), (1, 2), (2, 2), (3, 26)], 4, 48, [.int .i64 0, .int .i64 0, .int .i64 0, .slice none 0 0]⟩ := by kernel_rfl
@[go_sem] theorem ti_37 : ti Tryd.prog 37 = ⟨true, .struct [(0, 2), (1, 2), (2, 2), (3, 26)], 4, 48, [.int .i64 0, .int .i64 0, .int .i64 0, .slice none 0 0]⟩ := by kernel_rfl
@[go_sem] theorem ti_43 : ti Tryd.prog 43 = ⟨true, .pointer 65, 1, 8, [.pointer none]⟩ := by kernel_rfl
@[go_sem] theorem ti_51 : ti Tryd.prog 51 = ⟨true, .slice 26, 1, 24, [.slice none 0 0]⟩ := by kernel_rfl
@[go_sem] theorem ti_63 : ti Tryd.prog 63 = ⟨true, .int .u64, 1, 8, [.int .u64 0]⟩ := by kernel_rfl
@[go_sem] theorem ti_64 : ti Tryd.prog 64 = ⟨true, .struct [(0, 22), (1, 3), (2, 63)], 3, 40, [.slice none 0 0, .int .i64 0, .int .u64 0]⟩ := by kernel_rfl
@[go_sem] theorem ti_65 : ti Tryd.prog 65 = ⟨true, .struct [(0, 22), (1, 3), (2, 63)], 3, 40, [.slice none 0 0, .int .i64 0, .int .u64 0]⟩ := by kernel_rfl
@[go_sem] theorem ti_70 : ti Tryd.prog 70 = ⟨true, .slice 9, 1, 24, [.slice none 0 0]⟩ := by kernel_rfl
@[go_sem] theorem ti_72 : ti Tryd.prog 72 = ⟨true, .int .u64, 1, 8, [.int .u64 0]⟩ := by kernel_rfl
@[go_sem] theorem ti_73 : ti Tryd.prog 73 = ⟨true, .pointer 75, 1, 8, [.pointer none]⟩ := by kernel_rfl
@[go_sem] theorem ti_74 : ti Tryd.prog 74 = ⟨true, .struct [(0, 73), (1, 22)], 2, 32, [.pointer none, .slice none 0 0]⟩ := by kernel_rfl
@[go_sem] theorem ti_75 : ti Tryd.prog 75 = ⟨true, .struct [(0, 73), (1, 22)], 2, 32, [.pointer none, .slice none 0 0]⟩ := by kernel_rfl
@[go_sem] theorem ti_83 : ti Tryd.prog 83 = ⟨true, .array 24 5, 24, 24, [.int .u8 0, .int .u8 0, .int .u8 0, .int .u8 0, .int .u8 0, .int .u8 0, .int .u8 0, .int .u8 0, .int .u8 0, .int .u8 0, .int .u8 0, .int .u8 0, .int .u8 0, .int .u8 0, .int .u8 0, .int .u8 0, .int .u8 0, .int .u8 0, .int .u8 0, .int .u8 0, .int .u8 0, .int .u8 0, .int .u8 0, .int .u8 0]⟩ := by kernel_rfl
@[go_sem] theorem ti_88 : ti Tryd.prog 88 = ⟨true, .pointer 5, 1, 8, [.pointer none]⟩ := by kernel_rfl
@[go_sem] theorem ti_91 : ti Tryd.prog 91 = ⟨true, .array 20 63, 20, 160, [.int .u64 0, .int .u64 0, .int .u64 0, .int .u64 0, .int .u64 0, .int .u64 0, .int .u64 0, .int .u64 0, .int .u64 0, .int .u64 0, .int .u64 0, .int .u64 0, .int .u64 0, .int .u64 0, .int .u64 0, .int .u64 0, .int .u64 0, .int .u64 0, .int .u64 0, .int .u64 0]⟩ := by kernel_rfl
@[go_sem] theorem ti_92 : ti Tryd.prog 92 = ⟨true, .int .u32, 1, 4, [.int .u32 0]⟩ := by kernel_rfl
@[go_sem] theorem ti_93 : ti Tryd.prog 93 = ⟨true, .array 65 5, 65, 65, [.int .u8 0, .int .u8 0, .int .u8 0, .int .u8 0, .int .u8 0, .int .u8 0, .int .u8 0, .int .u8 0, .int .u8 0, .int .u8 0, .int .u8 0, .int .u8 0, .int .u8 0, .int .u8 0, .int .u8 0, .int .u8 0, .int .u8 0, .int .u8 0, .int .u8 0, .int .u8 0, .int .u8 0, .int .u8 0, .int .u8 0, .int .u8 0, .int .u8 0, .int .u8 0, .int .u8 0, .int .u8 0, .int .u8 0, .int .u8 0, .int .u8 0, .int .u8 0, .int .u8 0, .int .u8 0, .int .u8 0, .int .u8 0, .int .u8 0, .int .u8 0, .int .u8 0, .int .u8 0, .int .u8 0, .int .u8 0, .int .u8 0, .int .u8 0, .int .u8 0, .int .u8 0, .int .u8 0, .int .u8 0, .int .u8 0, .int .u8 0, .int .u8 0, .int .u8 0, .int .u8 0, .int .u8 0, .int .u8 0, .int .u8 0, .int .u8 0, .int .u8 0, .int .u8 0, .int .u8 0, .int .u8 0, .int .u8 0, .int .u8 0, .int .u8 0, .int .u8 0]⟩ := by kernel_rfl
@[go_sem] theorem ti_100 : ti Tryd.prog 100 = ⟨true, .array 32 5, 32, 32, [.int .u8 0, .int .u8 0, .int .u8 0, .int .u8 0, .int .u8 0, .int .u8 0, .int .u8 0, .int .u8 0, .int .u8 0, .int .u8 0, .int .u8 0, .int .u8 0, .int .u8 0, .int .u8 0, .int .u8 0, .int .u8 0, .int .u8 0, .int .u8 0, .int .u8 0, .int .u8 0, .int .u8 0, .int .u8 0, .int .u8 0, .int .u8 0, .int .u8 0, .int .u8 0, .int .u8 0, .int .u8 0, .int .u8 0, .int .u8 0, .int .u8 0, .int .u8 0]⟩ := by kernel_rfl
@[go_sem] theorem ti_101 : ti Tryd.prog 101 = ⟨true, .array 64 5, 64, 64, [.int .u8 0, .int .u8 0, .int .u8 0, .int .u8 0, .int .u8 0, .int .u8 0, .int .u8 0, .int .u8 0, .int .u8 0, .int .u8 0, .int .u8 0, .int .u8 0, .int .u8 0, .int .u8 0, .int .u8 0, .int .u8 0, .int .u8 0, .int .u8 0, .int .u8 0, .int .u8 0, .int .u8 0, .int .u8 0, .int .u8 0, .int .u8 0, .int .u8 0, .int .u8 0, .int .u8 0, .int .u8 0, .int .u8 0, .int .u8 0, .int .u8 0, .int .u8 0, .int .u8 0, .int .u8 0, .int .u8 0, .int .u8 0, .int .u8 0, .int .u8 0, .int .u8 0, .int .u8 0, .int .u8 0, .int .u8 0, .int .u8 0, .int .u8 0, .int .u8 0, .int .u8 0, .int .u8 0, .int .u8 0, .int .u8 0, .int .u8 0, .int .u8 0, .int .u8 0, .int .u8 0, .int .u8 0, .int .u8 0, .int .u8 0, .int .u8 0, .int .u8 0, .int .u8 0, .int .u8 0, .int .u8 0, .int .u8 0, .int .u8 0, .int .u8 0]⟩ := by kernel_rfl
@[go_sem] theorem ti_102 : ti Tryd.prog 102 = ⟨true, .struct [(0, 17), (1, 17), (2, 17), (3, 9)], 4, 40, [.pointer none, .pointer none, .pointer none, .string ⟨#[]⟩]⟩ := by kernel_rfl
@[go_sem] theorem ti_103 : ti Tryd.prog 103 = ⟨true, .struct [(0, 17), (1, 17), (2, 17), (3, 9)], 4, 40, [.pointer none, .pointer none, .pointer none, .string ⟨#[]⟩]⟩ := by kernel_rfl
@[go_sem] theorem ti_104 : ti Tryd.prog 104 = ⟨true, .array 0 16, 0, 0, []⟩ := by kernel_rfl
@[go_sem] theorem ti_105 : ti Tryd.prog 105 = ⟨true, .struct [(0, 104)], 0, 0, []⟩ := by kernel_rfl
@[go_sem] theorem ti_106 : ti Tryd.prog 106 = ⟨true, .struct [(0, 104)], 0, 0, []⟩ := by kernel_rfl
@[go_sem] theorem ti_108 : ti Tryd.prog 108 = ⟨true, .int .u8, 1, 1, [.int .u8 0]⟩ := by kernel_rfl
@[go_sem] theorem ti_109 : ti Tryd.prog 109 = ⟨true, .int .u8, 1, 1, [.int .u8 0]⟩ := by kernel_rfl
@[go_sem] theorem ti_111 : ti Tryd.prog 111 = ⟨true, .int .i32, 1, 4, [.int .i32 0]⟩ := by kernel_rfl
@[go_sem] theorem ti_112 : ti Tryd.prog 112 = ⟨true, .int .i32, 1, 4, [.int .i32 0]⟩ := by kernel_rfl
@[go_sem] theorem ti_113 : ti Tryd.prog 113 = ⟨true, .struct [(0, 12), (1, 12), (2, 92), (3, 108), (4, 5), (5, 5), (6, 109), (7, 110), (8, 88), (9, 111), (10, 112)], 11, 48, [.int .u64 0, .int .u64 0, .int .u32 0, .int .u8 0, .int .u8 0, .int .u8 0, .int .u8 0, .nilFunc, .pointer none, .int .i32 0, .int .i32 0]⟩ := by kernel_rfl
@[go_sem] theorem ti_114 : ti Tryd.prog 114 = ⟨true, .struct [(0, 12), (1, 12), (2, 92), (3, 108), (4, 5), (5, 5), (6, 109), (7, 110), (8, 88), (9, 111), (10, 112)], 11, 48, [.int .u64 0, .int .u64 0, .int .u32 0, .int .u8 0, .int .u8 0, .int .u8 0, .int .u8 0, .nilFunc, .pointer none, .int .i32 0, .int .i32 0]⟩ := by kernel_rfl
theorem mixed : Tryd.prog.follows .mixedOrders = true := by kernel_rfl
end Go.Proofs.YtkflbpojkccchaaDoor
