/-
  AG, part T: what the program says of its types, row by row, for simp. Conditions: none. Written by a program (gen_t.py).
-/
import Derived.Test.YtpjjjonplikilaaProg
import Derived.Test.YtpjjjonplikilaaAgQ
import Derived.KernelRfl
namespace Go.Proofs.Ytpjjjonplikilaa
open Go.AG
@[go_sem] theorem ti_2 : ti Try.prog 2 = ⟨true, .int .i64, 1, 8, [.int .i64 0]⟩ := by kernel_rfl
@[go_sem] theorem ti_3 : ti Try.prog 3 = ⟨true, .int .i64, 1, 8, [.int .i64 0]⟩ := by kernel_rfl
@[go_sem] theorem ti_4 : ti Try.prog 4 = ⟨true, .bool, 1, 1, [.bool false]⟩ := by kernel_rfl
@[go_sem] theorem ti_5 : ti Try.prog 5 = ⟨true, .int .u8, 1, 1, [.int .u8 0]⟩ := by kernel_rfl
@[go_sem] theorem ti_6 : ti Try.prog 6 = ⟨true, .int .u8, 1, 1, [.int .u8 0]⟩ := by kernel_rfl
@[go_sem] theorem ti_7 : ti Try.prog 7 = ⟨true, .struct [(0, 2), (1, 3), (2, 4), (3, 6)], 4, 24, [.int .i64 0, .int .i64 0, .bool false, .int .u8 0]⟩ := by kernel_rfl
@[go_sem] theorem ti_8 : ti Try.prog 8 = ⟨true, .struct [(0, 2), (1, 3), (2, 4), (3, 6)], 4, 24, [.int .i64 0, .int .i64 0, .bool false, .int .u8 0]⟩ := by kernel_rfl
@[go_sem] theorem ti_9 : ti Try.prog 9 = ⟨true, .string, 1, 16, [.string ⟨#[]⟩]⟩ := by kernel_rfl
@[go_sem] theorem ti_10 : ti Try.prog 10 = ⟨true, .string, 1, 16, [.string ⟨#[]⟩]⟩ := by kernel_rfl
@[go_sem] theorem ti_11 : ti Try.prog 11 = ⟨true, .string, 1, 16, [.string ⟨#[]⟩]⟩ := by kernel_rfl
@[go_sem] theorem ti_12 : ti Try.prog 12 = ⟨true, .int .u64, 1, 8, [.int .u64 0]⟩ := by kernel_rfl
@[go_sem] theorem ti_13 : ti Try.prog 13 = ⟨true, .struct [(0, 9), (1, 12)], 2, 24, [.string ⟨#[]⟩, .int .u64 0]⟩ := by kernel_rfl
@[go_sem] theorem ti_14 : ti Try.prog 14 = ⟨true, .struct [(0, 9), (1, 12)], 2, 24, [.string ⟨#[]⟩, .int .u64 0]⟩ := by kernel_rfl
@[go_sem] theorem ti_15 : ti Try.prog 15 = ⟨true, .pointer 42, 1, 8, [.pointer none]⟩ := by kernel_rfl
@[go_sem] theorem ti_16 : ti Try.prog 16 = ⟨true, .pointer 45, 1, 8, [.pointer none]⟩ := by kernel_rfl
@[go_sem] theorem ti_17 : ti Try.prog 17 = ⟨true, .pointer 55, 1, 8, [.pointer none]⟩ := by kernel_rfl
@[go_sem] theorem ti_18 : ti Try.prog 18 = ⟨true, .struct [(0, 17)], 1, 8, [.pointer none]⟩ := by kernel_rfl
@[go_sem] theorem ti_19 : ti Try.prog 19 = ⟨true, .struct [(0, 17)], 1, 8, [.pointer none]⟩ := by kernel_rfl
@[go_sem] theorem ti_21 : ti Try.prog 21 = ⟨true, .int .i32, 1, 4, [.int .i32 0]⟩ := by kernel_rfl
@[go_sem] theorem ti_22 : ti Try.prog 22 = ⟨true, .slice 2, 1, 24, [.slice none 0 0]⟩ := by kernel_rfl
@[go_sem] theorem ti_31 : ti Try.prog 31 = ⟨true, .int .u64, 1, 8, [.int .u64 0]⟩ := by kernel_rfl
@[go_sem] theorem ti_34 : ti Try.prog 34 = ⟨true, .slice 22, 1, 24, [.slice none 0 0]⟩ := by kernel_rfl
@[go_sem] theorem ti_41 : ti Try.prog 41 = ⟨true, .struct [(0, 17), (1, 17), (2, 17), (3, 9)], 4, 40, [.pointer none, .pointer none, .pointer none, .string ⟨#[]⟩]⟩ := by kernel_rfl
@[go_sem] theorem ti_42 : ti Try.prog 42 = ⟨true, .struct [(0, 17), (1, 17), (2, 17), (3, 9)], 4, 40, [.pointer none, .pointer none, .pointer none, .string ⟨#[]⟩]⟩ := by kernel_rfl
@[go_sem] theorem ti_43 : ti Try.prog 43 = ⟨true, .array 0 16, 0, 0, []⟩ := by kernel_rfl
@[go_sem] theorem ti_44 : ti Try.prog 44 = ⟨true, .struct [(0, 43)], 0, 0, []⟩ := by kernel_rfl
@[go_sem] theorem ti_45 : ti Try.prog 45 = ⟨true, .struct [(0, 43)], 0, 0, []⟩ := by kernel_rfl
@[go_sem] theorem ti_47 : ti Try.prog 47 = ⟨true, .int .u32, 1, 4, [.int .u32 0]⟩ := by kernel_rfl
@[go_sem] theorem ti_48 : ti Try.prog 48 = ⟨true, .int .u8, 1, 1, [.int .u8 0]⟩ := by kernel_rfl
@[go_sem] theorem ti_49 : ti Try.prog 49 = ⟨true, .int .u8, 1, 1, [.int .u8 0]⟩ := by kernel_rfl
@[go_sem] theorem ti_51 : ti Try.prog 51 = ⟨true, .pointer 5, 1, 8, [.pointer none]⟩ := by kernel_rfl
@[go_sem] theorem ti_52 : ti Try.prog 52 = ⟨true, .int .i32, 1, 4, [.int .i32 0]⟩ := by kernel_rfl
@[go_sem] theorem ti_53 : ti Try.prog 53 = ⟨true, .int .i32, 1, 4, [.int .i32 0]⟩ := by kernel_rfl
@[go_sem] theorem ti_54 : ti Try.prog 54 = ⟨true, .struct [(0, 12), (1, 12), (2, 47), (3, 48), (4, 5), (5, 5), (6, 49), (7, 50), (8, 51), (9, 52), (10, 53)], 11, 48, [.int .u64 0, .int .u64 0, .int .u32 0, .int .u8 0, .int .u8 0, .int .u8 0, .int .u8 0, .nilFunc, .pointer none, .int .i32 0, .int .i32 0]⟩ := by kernel_rfl
@[go_sem] theorem ti_55 : ti Try.prog 55 = ⟨true, .struct [(0, 12), (1, 12), (2, 47), (3, 48), (4, 5), (5, 5), (6, 49), (7, 50), (8, 51), (9, 52), (10, 53)], 11, 48, [.int .u64 0, .int .u64 0, .int .u32 0, .int .u8 0, .int .u8 0, .int .u8 0, .int .u8 0, .nilFunc, .pointer none, .int .i32 0, .int .i32 0]⟩ := by kernel_rfl
@[go_sem] theorem zo_2 : zeroOf Try.prog 2 = some (.int .i64 0) := by kernel_rfl
@[go_sem] theorem zo_3 : zeroOf Try.prog 3 = some (.int .i64 0) := by kernel_rfl
@[go_sem] theorem zo_4 : zeroOf Try.prog 4 = some (.bool false) := by kernel_rfl
@[go_sem] theorem zo_5 : zeroOf Try.prog 5 = some (.int .u8 0) := by kernel_rfl
@[go_sem] theorem zo_6 : zeroOf Try.prog 6 = some (.int .u8 0) := by kernel_rfl
@[go_sem] theorem zo_12 : zeroOf Try.prog 12 = some (.int .u64 0) := by kernel_rfl
@[go_sem] theorem zo_21 : zeroOf Try.prog 21 = some (.int .i32 0) := by kernel_rfl
@[go_sem] theorem zo_31 : zeroOf Try.prog 31 = some (.int .u64 0) := by kernel_rfl
@[go_sem] theorem zo_47 : zeroOf Try.prog 47 = some (.int .u32 0) := by kernel_rfl
@[go_sem] theorem zo_48 : zeroOf Try.prog 48 = some (.int .u8 0) := by kernel_rfl
@[go_sem] theorem zo_49 : zeroOf Try.prog 49 = some (.int .u8 0) := by kernel_rfl
@[go_sem] theorem zo_52 : zeroOf Try.prog 52 = some (.int .i32 0) := by kernel_rfl
@[go_sem] theorem zo_53 : zeroOf Try.prog 53 = some (.int .i32 0) := by kernel_rfl
theorem mixed : Try.prog.follows .mixedOrders = true := by kernel_rfl
end Go.Proofs.Ytpjjjonplikilaa
