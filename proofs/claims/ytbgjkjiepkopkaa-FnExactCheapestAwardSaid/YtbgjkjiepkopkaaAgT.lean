/-
  AG, part T: what the program says of its types, row by row, for simp. Conditions: none. Written by a program (gen_t.py).
-/
import Derived.Test.YtbgjkjiepkopkaaProg
import Derived.Test.YtbgjkjiepkopkaaAgQ
import Derived.KernelRfl
namespace Go.Proofs.Ytbgjkjiepkopkaa
open Go.AG
@[go_sem] theorem ti_2 : ti Try.prog 2 = ⟨true, .int .i64, 1, 8, [.int .i64 0]⟩ := by kernel_rfl
@[go_sem] theorem ti_3 : ti Try.prog 3 = ⟨true, .int .i64, 1, 8, [.int .i64 0]⟩ := by kernel_rfl
@[go_sem] theorem ti_4 : ti Try.prog 4 = ⟨true, .bool, 1, 1, [.bool false]⟩ := by kernel_rfl
@[go_sem] theorem ti_5 : ti Try.prog 5 = ⟨true, .int .u8, 1, 1, [.int .u8 0]⟩ := by kernel_rfl
@[go_sem] theorem ti_6 : ti Try.prog 6 = ⟨true, .int .u8, 1, 1, [.int .u8 0]⟩ := by kernel_rfl
@[go_sem] theorem ti_7 : ti Try.prog 7 = ⟨true, .struct [(0, 2), (1, 3), (2, 4), (3, 6)], 4, 24, [.int .i64 0, .int .i64 0, .bool false, .int .u8 0]⟩ := by kernel_rfl
@[go_sem] theorem ti_8 : ti Try.prog 8 = ⟨true, .struct [(0, 2), (1, 3), (2, 4), (3, 6)], 4, 24, [.int .i64 0, .int .i64 0, .bool false, .int .u8 0]⟩ := by kernel_rfl
@[go_sem] theorem ti_9 : ti Try.prog 9 = ⟨true, .string, 1, 16, [.string ⟨#[]⟩]⟩ := by kernel_rfl
@[go_sem] theorem ti_10 : ti Try.prog 10 = ⟨true, .string, 1, 16, [.string ⟨#[]⟩]⟩ := by kernel_rfl
@[go_sem] theorem ti_11 : ti Try.prog 11 = ⟨true, .string, 1, 16, [.string ⟨#[]⟩]⟩ := by kernel_rfl
@[go_sem] theorem ti_12 : ti Try.prog 12 = ⟨true, .int .u64, 1, 8, [.int .u64 0]⟩ := by kernel_rfl
@[go_sem] theorem ti_13 : ti Try.prog 13 = ⟨true, .struct [(0, 9), (1, 12)], 2, 24, [.string ⟨#[]⟩, .int .u64 0]⟩ := by kernel_rfl
@[go_sem] theorem ti_14 : ti Try.prog 14 = ⟨true, .struct [(0, 9), (1, 12)], 2, 24, [.string ⟨#[]⟩, .int .u64 0]⟩ := by kernel_rfl
@[go_sem] theorem ti_15 : ti Try.prog 15 = ⟨true, .pointer 106, 1, 8, [.pointer none]⟩ := by kernel_rfl
@[go_sem] theorem ti_16 : ti Try.prog 16 = ⟨true, .pointer 109, 1, 8, [.pointer none]⟩ := by kernel_rfl
@[go_sem] theorem ti_17 : ti Try.prog 17 = ⟨true, .pointer 119, 1, 8, [.pointer none]⟩ := by kernel_rfl
@[go_sem] theorem ti_18 : ti Try.prog 18 = ⟨true, .struct [(0, 17)], 1, 8, [.pointer none]⟩ := by kernel_rfl
@[go_sem] theorem ti_19 : ti Try.prog 19 = ⟨true, .struct [(0, 17)], 1, 8, [.pointer none]⟩ := by kernel_rfl
@[go_sem] theorem ti_21 : ti Try.prog 21 = ⟨true, .int .i32, 1, 4, [.int .i32 0]⟩ := by kernel_rfl
@[go_sem] theorem ti_22 : ti Try.prog 22 = ⟨true, .slice 2, 1, 24, [.slice none 0 0]⟩ := by kernel_rfl
@[go_sem] theorem ti_23 : ti Try.prog 23 = ⟨true, .slice 89, 1, 24, [.slice none 0 0]⟩ := by kernel_rfl
@[go_sem] theorem ti_24 : ti Try.prog 24 = ⟨true, .struct [(0, 2), (1, 22), (2, 23)], 3, 56, [.int .i64 0, .slice none 0 0, .slice none 0 0]⟩ := by kernel_rfl
@[go_sem] theorem ti_25 : ti Try.prog 25 = ⟨true, .struct [(0, 2), (1, 22), (2, 23)], 3, 56, [.int .i64 0, .slice none 0 0, .slice none 0 0]⟩ := by kernel_rfl
@[go_sem] theorem ti_29 : ti Try.prog 29 = ⟨true, .slice 86, 1, 24, [.slice none 0 0]⟩ := by kernel_rfl
@[go_sem] theorem ti_30 : ti Try.prog 30 = ⟨true, .struct [(0, 2), (1, 22), (2, 29)], 3, 56, [.int .i64 0, .slice none 0 0, .slice none 0 0]⟩ := by kernel_rfl
@[go_sem] theorem ti_31 : ti Try.prog 31 = ⟨true, .struct [(0, 2), (1, 22), (2, 29)], 3, 56, [.int .i64 0, .slice none 0 0, .slice none 0 0]⟩ := by kernel_rfl
@[go_sem] theorem ti_38 : ti Try.prog 38 = ⟨true, .slice 5, 1, 24, [.slice none 0 0]⟩ := by kernel_rfl
@[go_sem] theorem ti_40 : ti Try.prog 40 = ⟨true, .struct [(0, 2), (1, 2), (2, 2), (3, 2), (4, 22), (5, 22)], 6, 80, [.int .i64 0, .int .i64 0, .int .i64 0, .int .i64 0, .slice none 0 0, .slice none 0 0]⟩ := by kernel_rfl
@[go_sem] theorem ti_41 : ti Try.prog 41 = ⟨true, .struct [(0, 2), (1, 2), (2, 2), (3, 2), (4, 22), (5, 22)], 6, 80, [.int .i64 0, .int .i64 0, .int .i64 0, .int .i64 0, .slice none 0 0, .slice none 0 0]⟩ := by kernel_rfl
@[go_sem] theorem ti_53 : ti Try.prog 53 = ⟨true, .pointer 31, 1, 8, [.pointer none]⟩ := by kernel_rfl
@[go_sem] theorem ti_54 : ti Try.prog 54 = ⟨true, .pointer 57, 1, 8, [.pointer none]⟩ := by kernel_rfl
@[go_sem] theorem ti_56 : ti Try.prog 56 = ⟨true, .struct [(0, 53), (1, 22), (2, 22), (3, 22), (4, 2)], 5, 88, [.pointer none, .slice none 0 0, .slice none 0 0, .slice none 0 0, .int .i64 0]⟩ := by kernel_rfl
@[go_sem] theorem ti_57 : ti Try.prog 57 = ⟨true, .struct [(0, 53), (1, 22), (2, 22), (3, 22), (4, 2)], 5, 88, [.pointer none, .slice none 0 0, .slice none 0 0, .slice none 0 0, .int .i64 0]⟩ := by kernel_rfl
@[go_sem] theorem ti_61 : ti Try.prog 61 = ⟨true, .pointer 63, 1, 8, [.pointer none]⟩ := by kernel_rfl
@[go_sem] theorem ti_62 : ti Try.prog 62 = ⟨true, .struct [(0, 31), (3, 22), (4, 22), (5, 22), (6, 2)], 7, 136, [.int .i64 0, .slice none 0 0, .slice none 0 0, .slice none 0 0, .slice none 0 0, .slice none 0 0, .int .i64 0]⟩ := by kernel_rfl
@[go_sem] theorem ti_63 : ti Try.prog 63 = ⟨true, .struct [(0, 31), (3, 22), (4, 22), (5, 22), (6, 2)], 7, 136, [.int .i64 0, .slice none 0 0, .slice none 0 0, .slice none 0 0, .slice none 0 0, .slice none 0 0, .int .i64 0]⟩ := by kernel_rfl
@[go_sem] theorem ti_67 : ti Try.prog 67 = ⟨true, .pointer 96, 1, 8, [.pointer none]⟩ := by kernel_rfl
@[go_sem] theorem ti_70 : ti Try.prog 70 = ⟨true, .pointer 41, 1, 8, [.pointer none]⟩ := by kernel_rfl
@[go_sem] theorem ti_84 : ti Try.prog 84 = ⟨true, .pointer 86, 1, 8, [.pointer none]⟩ := by kernel_rfl
@[go_sem] theorem ti_85 : ti Try.prog 85 = ⟨true, .struct [(0, 2), (1, 2), (2, 2)], 3, 24, [.int .i64 0, .int .i64 0, .int .i64 0]⟩ := by kernel_rfl
@[go_sem] theorem ti_86 : ti Try.prog 86 = ⟨true, .struct [(0, 2), (1, 2), (2, 2)], 3, 24, [.int .i64 0, .int .i64 0, .int .i64 0]⟩ := by kernel_rfl
@[go_sem] theorem ti_89 : ti Try.prog 89 = ⟨true, .struct [(0, 2), (1, 2), (2, 2)], 3, 24, [.int .i64 0, .int .i64 0, .int .i64 0]⟩ := by kernel_rfl
@[go_sem] theorem ti_94 : ti Try.prog 94 = ⟨true, .int .u64, 1, 8, [.int .u64 0]⟩ := by kernel_rfl
@[go_sem] theorem ti_95 : ti Try.prog 95 = ⟨true, .struct [(0, 38), (1, 3), (2, 94)], 3, 40, [.slice none 0 0, .int .i64 0, .int .u64 0]⟩ := by kernel_rfl
@[go_sem] theorem ti_96 : ti Try.prog 96 = ⟨true, .struct [(0, 38), (1, 3), (2, 94)], 3, 40, [.slice none 0 0, .int .i64 0, .int .u64 0]⟩ := by kernel_rfl
@[go_sem] theorem ti_97 : ti Try.prog 97 = ⟨true, .slice 22, 1, 24, [.slice none 0 0]⟩ := by kernel_rfl
@[go_sem] theorem ti_103 : ti Try.prog 103 = ⟨true, .int .u64, 1, 8, [.int .u64 0]⟩ := by kernel_rfl
@[go_sem] theorem ti_105 : ti Try.prog 105 = ⟨true, .struct [(0, 17), (1, 17), (2, 17), (3, 9)], 4, 40, [.pointer none, .pointer none, .pointer none, .string ⟨#[]⟩]⟩ := by kernel_rfl
@[go_sem] theorem ti_106 : ti Try.prog 106 = ⟨true, .struct [(0, 17), (1, 17), (2, 17), (3, 9)], 4, 40, [.pointer none, .pointer none, .pointer none, .string ⟨#[]⟩]⟩ := by kernel_rfl
@[go_sem] theorem ti_107 : ti Try.prog 107 = ⟨true, .array 0 16, 0, 0, []⟩ := by kernel_rfl
@[go_sem] theorem ti_108 : ti Try.prog 108 = ⟨true, .struct [(0, 107)], 0, 0, []⟩ := by kernel_rfl
@[go_sem] theorem ti_109 : ti Try.prog 109 = ⟨true, .struct [(0, 107)], 0, 0, []⟩ := by kernel_rfl
@[go_sem] theorem ti_111 : ti Try.prog 111 = ⟨true, .int .u32, 1, 4, [.int .u32 0]⟩ := by kernel_rfl
@[go_sem] theorem ti_112 : ti Try.prog 112 = ⟨true, .int .u8, 1, 1, [.int .u8 0]⟩ := by kernel_rfl
@[go_sem] theorem ti_113 : ti Try.prog 113 = ⟨true, .int .u8, 1, 1, [.int .u8 0]⟩ := by kernel_rfl
@[go_sem] theorem ti_115 : ti Try.prog 115 = ⟨true, .pointer 5, 1, 8, [.pointer none]⟩ := by kernel_rfl
@[go_sem] theorem ti_116 : ti Try.prog 116 = ⟨true, .int .i32, 1, 4, [.int .i32 0]⟩ := by kernel_rfl
@[go_sem] theorem ti_117 : ti Try.prog 117 = ⟨true, .int .i32, 1, 4, [.int .i32 0]⟩ := by kernel_rfl
@[go_sem] theorem ti_118 : ti Try.prog 118 = ⟨true, .struct [(0, 12), (1, 12), (2, 111), (3, 112), (4, 5), (5, 5), (6, 113), (7, 114), (8, 115), (9, 116), (10, 117)], 11, 48, [.int .u64 0, .int .u64 0, .int .u32 0, .int .u8 0, .int .u8 0, .int .u8 0, .int .u8 0, .nilFunc, .pointer none, .int .i32 0, .int .i32 0]⟩ := by kernel_rfl
@[go_sem] theorem ti_119 : ti Try.prog 119 = ⟨true, .struct [(0, 12), (1, 12), (2, 111), (3, 112), (4, 5), (5, 5), (6, 113), (7, 114), (8, 115), (9, 116), (10, 117)], 11, 48, [.int .u64 0, .int .u64 0, .int .u32 0, .int .u8 0, .int .u8 0, .int .u8 0, .int .u8 0, .nilFunc, .pointer none, .int .i32 0, .int .i32 0]⟩ := by kernel_rfl
@[go_sem] theorem eqi_85 : eqInfo Try.prog 85 = some [(0, 2), (1, 2), (2, 2)] := by kernel_rfl
@[go_sem] theorem eqi_86 : eqInfo Try.prog 86 = some [(0, 2), (1, 2), (2, 2)] := by kernel_rfl
@[go_sem] theorem eqi_89 : eqInfo Try.prog 89 = some [(0, 2), (1, 2), (2, 2)] := by kernel_rfl
theorem mixed : Try.prog.follows .mixedOrders = true := by kernel_rfl
end Go.Proofs.Ytbgjkjiepkopkaa
