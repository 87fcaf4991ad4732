/-
  AG, part T: what the program says of its types, row by row, for simp. Conditions: none. Written by a program (gen_t.py).
-/
import Derived.Test.YthgdbhmdcokbdaaProg
import Derived.Test.YthgdbhmdcokbdaaAgQ
import Derived.KernelRfl
namespace Go.Proofs.Ythgdbhmdcokbdaa
open Go.AG
@[go_sem] theorem ti_2 : ti Try.prog 2 = ⟨true, .int .i64, 1, 8, [.int .i64 0]⟩ := by kernel_rfl
@[go_sem] theorem ti_3 : ti Try.prog 3 = ⟨true, .int .i64, 1, 8, [.int .i64 0]⟩ := by kernel_rfl
@[go_sem] theorem ti_4 : ti Try.prog 4 = ⟨true, .bool, 1, 1, [.bool false]⟩ := by kernel_rfl
@[go_sem] theorem ti_5 : ti Try.prog 5 = ⟨true, .int .u8, 1, 1, [.int .u8 0]⟩ := by kernel_rfl
@[go_sem] theorem ti_6 : ti Try.prog 6 = ⟨true, .int .u8, 1, 1, [.int .u8 0]⟩ := by kernel_rfl
@[go_sem] theorem ti_7 : ti Try.prog 7 = ⟨true, .struct [(0, 2), (1, 3), (2, 4), (3, 6)], 4, 24, [.int .i64 0, .int .i64 0, .bool false, .int .u8 0]⟩ := by kernel_rfl
@[go_sem] theorem ti_8 : ti Try.prog 8 = ⟨true, .struct [(0, 2), (1, 3), (2, 4), (3, 6)], 4, 24, [.int .i64 0, .int .i64 0, .bool false, .int .u8 0]⟩ := by kernel_rfl
@[go_sem] theorem ti_9 : ti Try.prog 9 = ⟨true, .string, 1, 16, [.string ⟨#[]⟩]⟩ := by kernel_rfl
@[go_sem] theorem ti_10 : ti Try.prog 10 = ⟨true, .string, 1, 16, [.string ⟨#[]⟩]⟩ := by kernel_rfl
@[go_sem] theorem ti_11 : ti Try.prog 11 = ⟨true, .string, 1, 16, [.string ⟨#[]⟩]⟩ := by kernel_rfl
@[go_sem] theorem ti_12 : ti Try.prog 12 = ⟨true, .int .u64, 1, 8, [.int .u64 0]⟩ := by kernel_rfl
@[go_sem] theorem ti_13 : ti Try.prog 13 = ⟨true, .struct [(0, 9), (1, 12)], 2, 24, [.string ⟨#[]⟩, .int .u64 0]⟩ := by kernel_rfl
@[go_sem] theorem ti_14 : ti Try.prog 14 = ⟨true, .struct [(0, 9), (1, 12)], 2, 24, [.string ⟨#[]⟩, .int .u64 0]⟩ := by kernel_rfl
@[go_sem] theorem ti_15 : ti Try.prog 15 = ⟨true, .pointer 74, 1, 8, [.pointer none]⟩ := by kernel_rfl
@[go_sem] theorem ti_16 : ti Try.prog 16 = ⟨true, .pointer 77, 1, 8, [.pointer none]⟩ := by kernel_rfl
@[go_sem] theorem ti_17 : ti Try.prog 17 = ⟨true, .pointer 87, 1, 8, [.pointer none]⟩ := by kernel_rfl
@[go_sem] theorem ti_18 : ti Try.prog 18 = ⟨true, .struct [(0, 17)], 1, 8, [.pointer none]⟩ := by kernel_rfl
@[go_sem] theorem ti_19 : ti Try.prog 19 = ⟨true, .struct [(0, 17)], 1, 8, [.pointer none]⟩ := by kernel_rfl
@[go_sem] theorem ti_21 : ti Try.prog 21 = ⟨true, .int .i32, 1, 4, [.int .i32 0]⟩ := by kernel_rfl
@[go_sem] theorem ti_22 : ti Try.prog 22 = ⟨true, .slice 5, 1, 24, [.slice none 0 0]⟩ := by kernel_rfl
@[go_sem] theorem ti_24 : ti Try.prog 24 = ⟨true, .slice 2, 1, 24, [.slice none 0 0]⟩ := by kernel_rfl
@[go_sem] theorem ti_25 : ti Try.prog 25 = ⟨true, .slice 38, 1, 24, [.slice none 0 0]⟩ := by kernel_rfl
@[go_sem] theorem ti_26 : ti Try.prog 26 = ⟨true, .struct [(0, 2), (1, 24), (2, 25)], 3, 56, [.int .i64 0, .slice none 0 0, .slice none 0 0]⟩ := by kernel_rfl
@[go_sem] theorem ti_27 : ti Try.prog 27 = ⟨true, .struct [(0, 2), (1, 24), (2, 25)], 3, 56, [.int .i64 0, .slice none 0 0, .slice none 0 0]⟩ := by kernel_rfl
@[go_sem] theorem ti_37 : ti Try.prog 37 = ⟨true, .struct [(0, 2), (1, 2), (2, 2)], 3, 24, [.int .i64 0, .int .i64 0, .int .i64 0]⟩ := by kernel_rfl
@[go_sem] theorem ti_38 : ti Try.prog 38 = ⟨true, .struct [(0, 2), (1, 2), (2, 2)], 3, 24, [.int .i64 0, .int .i64 0, .int .i64 0]⟩ := by kernel_rfl
@[go_sem] theorem ti_41 : ti Try.prog 41 = ⟨true, .pointer 27, 1, 8, [.pointer none]⟩ := by kernel_rfl
@[go_sem] theorem ti_43 : ti Try.prog 43 = ⟨true, .pointer 46, 1, 8, [.pointer none]⟩ := by kernel_rfl
@[go_sem] theorem ti_45 : ti Try.prog 45 = ⟨true, .struct [(0, 27), (3, 24), (4, 24), (5, 24), (6, 2)], 7, 136, [.int .i64 0, .slice none 0 0, .slice none 0 0, .slice none 0 0, .slice none 0 0, .slice none 0 0, .int .i64 0]⟩ := by kernel_rfl
@[go_sem] theorem ti_46 : ti Try.prog 46 = ⟨true, .struct [(0, 27), (3, 24), (4, 24), (5, 24), (6, 2)], 7, 136, [.int .i64 0, .slice none 0 0, .slice none 0 0, .slice none 0 0, .slice none 0 0, .slice none 0 0, .int .i64 0]⟩ := by kernel_rfl
@[go_sem] theorem ti_49 : ti Try.prog 49 = ⟨true, .pointer 51, 1, 8, [.pointer none]⟩ := by kernel_rfl
@[go_sem] theorem ti_50 : ti Try.prog 50 = ⟨true, .struct [(0, 41), (1, 24), (2, 24), (3, 24), (4, 2)], 5, 88, [.pointer none, .slice none 0 0, .slice none 0 0, .slice none 0 0, .int .i64 0]⟩ := by kernel_rfl
@[go_sem] theorem ti_51 : ti Try.prog 51 = ⟨true, .struct [(0, 41), (1, 24), (2, 24), (3, 24), (4, 2)], 5, 88, [.pointer none, .slice none 0 0, .slice none 0 0, .slice none 0 0, .int .i64 0]⟩ := by kernel_rfl
@[go_sem] theorem ti_53 : ti Try.prog 53 = ⟨true, .pointer 38, 1, 8, [.pointer none]⟩ := by kernel_rfl
@[go_sem] theorem ti_56 : ti Try.prog 56 = ⟨true, .pointer 69, 1, 8, [.pointer none]⟩ := by kernel_rfl
@[go_sem] theorem ti_67 : ti Try.prog 67 = ⟨true, .int .u64, 1, 8, [.int .u64 0]⟩ := by kernel_rfl
@[go_sem] theorem ti_68 : ti Try.prog 68 = ⟨true, .struct [(0, 22), (1, 3), (2, 67)], 3, 40, [.slice none 0 0, .int .i64 0, .int .u64 0]⟩ := by kernel_rfl
@[go_sem] theorem ti_69 : ti Try.prog 69 = ⟨true, .struct [(0, 22), (1, 3), (2, 67)], 3, 40, [.slice none 0 0, .int .i64 0, .int .u64 0]⟩ := by kernel_rfl
@[go_sem] theorem ti_71 : ti Try.prog 71 = ⟨true, .int .u64, 1, 8, [.int .u64 0]⟩ := by kernel_rfl
@[go_sem] theorem ti_73 : ti Try.prog 73 = ⟨true, .struct [(0, 17), (1, 17), (2, 17), (3, 9)], 4, 40, [.pointer none, .pointer none, .pointer none, .string ⟨#[]⟩]⟩ := by kernel_rfl
@[go_sem] theorem ti_74 : ti Try.prog 74 = ⟨true, .struct [(0, 17), (1, 17), (2, 17), (3, 9)], 4, 40, [.pointer none, .pointer none, .pointer none, .string ⟨#[]⟩]⟩ := by kernel_rfl
@[go_sem] theorem ti_75 : ti Try.prog 75 = ⟨true, .array 0 16, 0, 0, []⟩ := by kernel_rfl
@[go_sem] theorem ti_76 : ti Try.prog 76 = ⟨true, .struct [(0, 75)], 0, 0, []⟩ := by kernel_rfl
@[go_sem] theorem ti_77 : ti Try.prog 77 = ⟨true, .struct [(0, 75)], 0, 0, []⟩ := by kernel_rfl
@[go_sem] theorem ti_79 : ti Try.prog 79 = ⟨true, .int .u32, 1, 4, [.int .u32 0]⟩ := by kernel_rfl
@[go_sem] theorem ti_80 : ti Try.prog 80 = ⟨true, .int .u8, 1, 1, [.int .u8 0]⟩ := by kernel_rfl
@[go_sem] theorem ti_81 : ti Try.prog 81 = ⟨true, .int .u8, 1, 1, [.int .u8 0]⟩ := by kernel_rfl
@[go_sem] theorem ti_83 : ti Try.prog 83 = ⟨true, .pointer 5, 1, 8, [.pointer none]⟩ := by kernel_rfl
@[go_sem] theorem ti_84 : ti Try.prog 84 = ⟨true, .int .i32, 1, 4, [.int .i32 0]⟩ := by kernel_rfl
@[go_sem] theorem ti_85 : ti Try.prog 85 = ⟨true, .int .i32, 1, 4, [.int .i32 0]⟩ := by kernel_rfl
@[go_sem] theorem ti_86 : ti Try.prog 86 = ⟨true, .struct [(0, 12), (1, 12), (2, 79), (3, 80), (4, 5), (5, 5), (6, 81), (7, 82), (8, 83), (9, 84), (10, 85)], 11, 48, [.int .u64 0, .int .u64 0, .int .u32 0, .int .u8 0, .int .u8 0, .int .u8 0, .int .u8 0, .nilFunc, .pointer none, .int .i32 0, .int .i32 0]⟩ := by kernel_rfl
@[go_sem] theorem ti_87 : ti Try.prog 87 = ⟨true, .struct [(0, 12), (1, 12), (2, 79), (3, 80), (4, 5), (5, 5), (6, 81), (7, 82), (8, 83), (9, 84), (10, 85)], 11, 48, [.int .u64 0, .int .u64 0, .int .u32 0, .int .u8 0, .int .u8 0, .int .u8 0, .int .u8 0, .nilFunc, .pointer none, .int .i32 0, .int .i32 0]⟩ := by kernel_rfl
@[go_sem] theorem eqi_37 : eqInfo Try.prog 37 = some [(0, 2), (1, 2), (2, 2)] := by kernel_rfl
@[go_sem] theorem eqi_38 : eqInfo Try.prog 38 = some [(0, 2), (1, 2), (2, 2)] := by kernel_rfl
theorem mixed : Try.prog.follows .mixedOrders = true := by kernel_rfl
end Go.Proofs.Ythgdbhmdcokbdaa
