/-
  AG, part T: what the program says of its types, row by row, for simp. Conditions: none. Written by a program (gen_t.py).
-/
import Derived.Test.YtpjjjonplikilaaGreatProg
import Derived.Test.YtpjjjonplikilaaGreatAgQ
import Derived.KernelRfl
namespace Go.Proofs.YtpjjjonplikilaaGreat
open Go.AG
@[go_sem] theorem ti_2 : ti Tryz.prog 2 = ⟨true, .int .i64, 1, 8, [.int .i64 0]⟩ := by kernel_rfl
@[go_sem] theorem ti_3 : ti Tryz.prog 3 = ⟨true, .int .i64, 1, 8, [.int .i64 0]⟩ := by kernel_rfl
@[go_sem] theorem ti_4 : ti Tryz.prog 4 = ⟨true, .bool, 1, 1, [.bool false]⟩ := by kernel_rfl
@[go_sem] theorem ti_5 : ti Tryz.prog 5 = ⟨true, .int .u8, 1, 1, [.int .u8 0]⟩ := by kernel_rfl
@[go_sem] theorem ti_6 : ti Tryz.prog 6 = ⟨true, .int .u8, 1, 1, [.int .u8 0]⟩ := by kernel_rfl
@[go_sem] theorem ti_7 : ti Tryz.prog 7 = ⟨true, .struct [(0, 2), (1, 3), (2, 4), (3, 6)], 4, 24, [.int .i64 0, .int .i64 0, .bool false, .int .u8 0]⟩ := by kernel_rfl
@[go_sem] theorem ti_8 : ti Tryz.prog 8 = ⟨true, .struct [(0, 2), (1, 3), (2, 4), (3, 6)], 4, 24, [.int .i64 0, .int .i64 0, .bool false, .int .u8 0]⟩ := by kernel_rfl
@[go_sem] theorem ti_9 : ti Tryz.prog 9 = ⟨true, .string, 1, 16, [.string ⟨#[]⟩]⟩ := by kernel_rfl
@[go_sem] theorem ti_10 : ti Tryz.prog 10 = ⟨true, .string, 1, 16, [.string ⟨#[]⟩]⟩ := by kernel_rfl
@[go_sem] theorem ti_11 : ti Tryz.prog 11 = ⟨true, .string, 1, 16, [.string ⟨#[]⟩]⟩ := by kernel_rfl
@[go_sem] theorem ti_12 : ti Tryz.prog 12 = ⟨true, .int .u64, 1, 8, [.int .u64 0]⟩ := by kernel_rfl
@[go_sem] theorem ti_13 : ti Tryz.prog 13 = ⟨true, .struct [(0, 9), (1, 12)], 2, 24, [.string ⟨#[]⟩, .int .u64 0]⟩ := by kernel_rfl
@[go_sem] theorem ti_14 : ti Tryz.prog 14 = ⟨true, .struct [(0, 9), (1, 12)], 2, 24, [.string ⟨#[]⟩, .int .u64 0]⟩ := by kernel_rfl
@[go_sem] theorem ti_15 : ti Tryz.prog 15 = ⟨true, .pointer 164, 1, 8, [.pointer none]⟩ := by kernel_rfl
@[go_sem] theorem ti_16 : ti Tryz.prog 16 = ⟨true, .pointer 167, 1, 8, [.pointer none]⟩ := by kernel_rfl
@[go_sem] theorem ti_17 : ti Tryz.prog 17 = ⟨true, .pointer 176, 1, 8, [.pointer none]⟩ := by kernel_rfl
@[go_sem] theorem ti_18 : ti Tryz.prog 18 = ⟨true, .struct [(0, 17)], 1, 8, [.pointer none]⟩ := by kernel_rfl
@[go_sem] theorem ti_19 : ti Tryz.prog 19 = ⟨true, .struct [(0, 17)], 1, 8, [.pointer none]⟩ := by kernel_rfl
@[go_sem] theorem ti_21 : ti Tryz.prog 21 = ⟨true, .int .i32, 1, 4, [.int .i32 0]⟩ := by kernel_rfl
@[go_sem] theorem ti_22 : ti Tryz.prog 22 = ⟨true, .slice 5, 1, 24, [.slice none 0 0]⟩ := by kernel_rfl
@[go_sem] theorem ti_24 : ti Tryz.prog 24 = ⟨true, .slice 76, 1, 24, [.slice none 0 0]⟩ := by kernel_rfl
@[go_sem] theorem ti_27 : ti Tryz.prog 27 = ⟨true, .slice 2, 1, 24, [.slice none 0 0]⟩ := by kernel_rfl
@[go_sem] theorem ti_33 : ti Tryz.prog 33 = ⟨true, .struct [(0, 2), (1, 2)], 2, 16, [.int .i64 0, .int .i64 0]⟩ := by kernel_rfl
@[go_sem] theorem ti_34 : ti Tryz.prog 34 = ⟨true, .struct [(0, 2), (1, 2)], 2, 16, [.int .i64 0, .int .i64 0]⟩ := by kernel_rfl
@[go_sem] theorem ti_37 : ti Tryz.prog 37 = ⟨true, .slice 42, 1, 24, [.slice none 0 0]⟩ := by kernel_rfl
@[go_sem] theorem ti_40 : ti Tryz.prog 40 = ⟨true, .slice 4, 1, 24, [.slice none 0 0]⟩ := by kernel_rfl
@[go_sem] theorem ti_41 : ti Tryz.prog 41 = ⟨true, .struct [(0, 4), (1, 2), (2, 2)], 3, 24, [.bool false, .int .i64 0, .int .i64 0]⟩ := by kernel_rfl
@[go_sem] theorem ti_42 : ti Tryz.prog 42 = ⟨true, .struct [(0, 4), (1, 2), (2, 2)], 3, 24, [.bool false, .int .i64 0, .int .i64 0]⟩ := by kernel_rfl
@[go_sem] theorem ti_44 : ti Tryz.prog 44 = ⟨true, .struct [(0, 2), (1, 2), (2, 27)], 3, 40, [.int .i64 0, .int .i64 0, .slice none 0 0]⟩ := by kernel_rfl
@[go_sem] theorem ti_45 : ti Tryz.prog 45 = ⟨true, .struct [(0, 2), (1, 2), (2, 27)], 3, 40, [.int .i64 0, .int .i64 0, .slice none 0 0]⟩ := by kernel_rfl
@[go_sem] theorem ti_50 : ti Tryz.prog 50 = ⟨true, .struct [(0, 2), (1, 2), (2, 2), (3, 2), (4, 27), (5, 27)], 6, 80, [.int .i64 0, .int .i64 0, .int .i64 0, .int .i64 0, .slice none 0 0, .slice none 0 0]⟩ := by kernel_rfl
@[go_sem] theorem ti_51 : ti Tryz.prog 51 = ⟨true, .struct [(0, 2), (1, 2), (2, 2), (3, 2), (4, 27), (5, 27)], 6, 80, [.int .i64 0, .int .i64 0, .int .i64 0, .int .i64 0, .slice none 0 0, .slice none 0 0]⟩ := by kernel_rfl
@[go_sem] theorem ti_58 : ti Tryz.prog 58 = ⟨true, .slice 125, 1, 24, [.slice none 0 0]⟩ := by kernel_rfl
@[go_sem] theorem ti_61 : ti Tryz.prog 61 = ⟨true, .slice 101, 1, 24, [.slice none 0 0]⟩ := by kernel_rfl
@[go_sem] theorem ti_66 : ti Tryz.prog 66 = ⟨true, .pointer 108, 1, 8, [.pointer none]⟩ := by kernel_rfl
@[go_sem] theorem ti_74 : ti Tryz.prog 74 = ⟨true, .pointer 76, 1, 8, [.pointer none]⟩ := by kernel_rfl
@[go_sem] theorem ti_75 : ti Tryz.prog 75 = ⟨true, .struct [(0, 2), (1, 2), (2, 2), (3, 2), (4, 2)], 5, 40, [.int .i64 0, .int .i64 0, .int .i64 0, .int .i64 0, .int .i64 0]⟩ := by kernel_rfl
@[go_sem] theorem ti_76 : ti Tryz.prog 76 = ⟨true, .struct [(0, 2), (1, 2), (2, 2), (3, 2), (4, 2)], 5, 40, [.int .i64 0, .int .i64 0, .int .i64 0, .int .i64 0, .int .i64 0]⟩ := by kernel_rfl
@[go_sem] theorem ti_100 : ti Tryz.prog 100 = ⟨true, .struct [(0, 2), (1, 2), (2, 2)], 3, 24, [.int .i64 0, .int .i64 0, .int .i64 0]⟩ := by kernel_rfl
@[go_sem] theorem ti_101 : ti Tryz.prog 101 = ⟨true, .struct [(0, 2), (1, 2), (2, 2)], 3, 24, [.int .i64 0, .int .i64 0, .int .i64 0]⟩ := by kernel_rfl
@[go_sem] theorem ti_106 : ti Tryz.prog 106 = ⟨true, .int .u64, 1, 8, [.int .u64 0]⟩ := by kernel_rfl
@[go_sem] theorem ti_107 : ti Tryz.prog 107 = ⟨true, .struct [(0, 22), (1, 3), (2, 106)], 3, 40, [.slice none 0 0, .int .i64 0, .int .u64 0]⟩ := by kernel_rfl
@[go_sem] theorem ti_108 : ti Tryz.prog 108 = ⟨true, .struct [(0, 22), (1, 3), (2, 106)], 3, 40, [.slice none 0 0, .int .i64 0, .int .u64 0]⟩ := by kernel_rfl
@[go_sem] theorem ti_119 : ti Tryz.prog 119 = ⟨true, .map 2 4, 1, 8, [.map none]⟩ := by kernel_rfl
@[go_sem] theorem ti_124 : ti Tryz.prog 124 = ⟨true, .struct [(0, 2), (1, 2), (2, 2), (3, 2)], 4, 32, [.int .i64 0, .int .i64 0, .int .i64 0, .int .i64 0]⟩ := by kernel_rfl
@[go_sem] theorem ti_125 : ti Tryz.prog 125 = ⟨true, .struct [(0, 2), (1, 2), (2, 2), (3, 2)], 4, 32, [.int .i64 0, .int .i64 0, .int .i64 0, .int .i64 0]⟩ := by kernel_rfl
@[go_sem] theorem ti_128 : ti Tryz.prog 128 = ⟨true, .pointer 125, 1, 8, [.pointer none]⟩ := by kernel_rfl
@[go_sem] theorem ti_131 : ti Tryz.prog 131 = ⟨true, .slice 3, 1, 24, [.slice none 0 0]⟩ := by kernel_rfl
@[go_sem] theorem ti_138 : ti Tryz.prog 138 = ⟨true, .int .u64, 1, 8, [.int .u64 0]⟩ := by kernel_rfl
@[go_sem] theorem ti_139 : ti Tryz.prog 139 = ⟨true, .array 2 2, 2, 16, [.int .i64 0, .int .i64 0]⟩ := by kernel_rfl
@[go_sem] theorem ti_140 : ti Tryz.prog 140 = ⟨true, .slice 139, 1, 24, [.slice none 0 0]⟩ := by kernel_rfl
@[go_sem] theorem ti_143 : ti Tryz.prog 143 = ⟨true, .slice 27, 1, 24, [.slice none 0 0]⟩ := by kernel_rfl
@[go_sem] theorem ti_146 : ti Tryz.prog 146 = ⟨true, .int .u64, 1, 8, [.int .u64 0]⟩ := by kernel_rfl
@[go_sem] theorem ti_147 : ti Tryz.prog 147 = ⟨true, .struct [(0, 17), (1, 145), (2, 146)], 3, 24, [.pointer none, .pointer none, .int .u64 0]⟩ := by kernel_rfl
@[go_sem] theorem ti_148 : ti Tryz.prog 148 = ⟨true, .struct [(0, 17), (1, 145), (2, 146)], 3, 24, [.pointer none, .pointer none, .int .u64 0]⟩ := by kernel_rfl
@[go_sem] theorem ti_153 : ti Tryz.prog 153 = ⟨true, .struct [(0, 133), (1, 150)], 2, 16, [.nilFunc, .nilFunc]⟩ := by kernel_rfl
@[go_sem] theorem ti_154 : ti Tryz.prog 154 = ⟨true, .struct [(0, 133), (1, 150)], 2, 16, [.nilFunc, .nilFunc]⟩ := by kernel_rfl
@[go_sem] theorem ti_157 : ti Tryz.prog 157 = ⟨true, .struct [(0, 17)], 1, 8, [.pointer none]⟩ := by kernel_rfl
@[go_sem] theorem ti_158 : ti Tryz.prog 158 = ⟨true, .struct [(0, 17)], 1, 8, [.pointer none]⟩ := by kernel_rfl
@[go_sem] theorem ti_159 : ti Tryz.prog 159 = ⟨true, .pointer 178, 1, 8, [.pointer none]⟩ := by kernel_rfl
@[go_sem] theorem ti_163 : ti Tryz.prog 163 = ⟨true, .struct [(0, 17), (1, 17), (2, 17), (3, 9)], 4, 40, [.pointer none, .pointer none, .pointer none, .string ⟨#[]⟩]⟩ := by kernel_rfl
@[go_sem] theorem ti_164 : ti Tryz.prog 164 = ⟨true, .struct [(0, 17), (1, 17), (2, 17), (3, 9)], 4, 40, [.pointer none, .pointer none, .pointer none, .string ⟨#[]⟩]⟩ := by kernel_rfl
@[go_sem] theorem ti_165 : ti Tryz.prog 165 = ⟨true, .array 0 16, 0, 0, []⟩ := by kernel_rfl
@[go_sem] theorem ti_166 : ti Tryz.prog 166 = ⟨true, .struct [(0, 165)], 0, 0, []⟩ := by kernel_rfl
@[go_sem] theorem ti_167 : ti Tryz.prog 167 = ⟨true, .struct [(0, 165)], 0, 0, []⟩ := by kernel_rfl
@[go_sem] theorem ti_168 : ti Tryz.prog 168 = ⟨true, .int .u32, 1, 4, [.int .u32 0]⟩ := by kernel_rfl
@[go_sem] theorem ti_169 : ti Tryz.prog 169 = ⟨true, .int .u8, 1, 1, [.int .u8 0]⟩ := by kernel_rfl
@[go_sem] theorem ti_170 : ti Tryz.prog 170 = ⟨true, .int .u8, 1, 1, [.int .u8 0]⟩ := by kernel_rfl
@[go_sem] theorem ti_172 : ti Tryz.prog 172 = ⟨true, .pointer 5, 1, 8, [.pointer none]⟩ := by kernel_rfl
@[go_sem] theorem ti_173 : ti Tryz.prog 173 = ⟨true, .int .i32, 1, 4, [.int .i32 0]⟩ := by kernel_rfl
@[go_sem] theorem ti_174 : ti Tryz.prog 174 = ⟨true, .int .i32, 1, 4, [.int .i32 0]⟩ := by kernel_rfl
@[go_sem] theorem ti_175 : ti Tryz.prog 175 = ⟨true, .struct [(0, 12), (1, 12), (2, 168), (3, 169), (4, 5), (5, 5), (6, 170), (7, 171), (8, 172), (9, 173), (10, 174)], 11, 48, [.int .u64 0, .int .u64 0, .int .u32 0, .int .u8 0, .int .u8 0, .int .u8 0, .int .u8 0, .nilFunc, .pointer none, .int .i32 0, .int .i32 0]⟩ := by kernel_rfl
@[go_sem] theorem ti_176 : ti Tryz.prog 176 = ⟨true, .struct [(0, 12), (1, 12), (2, 168), (3, 169), (4, 5), (5, 5), (6, 170), (7, 171), (8, 172), (9, 173), (10, 174)], 11, 48, [.int .u64 0, .int .u64 0, .int .u32 0, .int .u8 0, .int .u8 0, .int .u8 0, .int .u8 0, .nilFunc, .pointer none, .int .i32 0, .int .i32 0]⟩ := by kernel_rfl
@[go_sem] theorem ti_177 : ti Tryz.prog 177 = ⟨true, .struct [(0, 9), (1, 170)], 2, 24, [.string ⟨#[]⟩, .int .u8 0]⟩ := by kernel_rfl
@[go_sem] theorem ti_178 : ti Tryz.prog 178 = ⟨true, .struct [(0, 9), (1, 170)], 2, 24, [.string ⟨#[]⟩, .int .u8 0]⟩ := by kernel_rfl
@[go_sem] theorem zo_2 : zeroOf Tryz.prog 2 = some (.int .i64 0) := by kernel_rfl
@[go_sem] theorem zo_3 : zeroOf Tryz.prog 3 = some (.int .i64 0) := by kernel_rfl
@[go_sem] theorem zo_4 : zeroOf Tryz.prog 4 = some (.bool false) := by kernel_rfl
@[go_sem] theorem zo_5 : zeroOf Tryz.prog 5 = some (.int .u8 0) := by kernel_rfl
@[go_sem] theorem zo_6 : zeroOf Tryz.prog 6 = some (.int .u8 0) := by kernel_rfl
@[go_sem] theorem zo_12 : zeroOf Tryz.prog 12 = some (.int .u64 0) := by kernel_rfl
@[go_sem] theorem zo_21 : zeroOf Tryz.prog 21 = some (.int .i32 0) := by kernel_rfl
@[go_sem] theorem zo_106 : zeroOf Tryz.prog 106 = some (.int .u64 0) := by kernel_rfl
@[go_sem] theorem zo_138 : zeroOf Tryz.prog 138 = some (.int .u64 0) := by kernel_rfl
@[go_sem] theorem zo_146 : zeroOf Tryz.prog 146 = some (.int .u64 0) := by kernel_rfl
@[go_sem] theorem zo_168 : zeroOf Tryz.prog 168 = some (.int .u32 0) := by kernel_rfl
@[go_sem] theorem zo_169 : zeroOf Tryz.prog 169 = some (.int .u8 0) := by kernel_rfl
@[go_sem] theorem zo_170 : zeroOf Tryz.prog 170 = some (.int .u8 0) := by kernel_rfl
@[go_sem] theorem zo_173 : zeroOf Tryz.prog 173 = some (.int .i32 0) := by kernel_rfl
@[go_sem] theorem zo_174 : zeroOf Tryz.prog 174 = some (.int .i32 0) := by kernel_rfl
@[go_sem] theorem eqi_33 : eqInfo Tryz.prog 33 = some [(0, 2), (1, 2)] := by kernel_rfl
@[go_sem] theorem eqi_34 : eqInfo Tryz.prog 34 = some [(0, 2), (1, 2)] := by kernel_rfl
@[go_sem] theorem eqi_41 : eqInfo Tryz.prog 41 = some [(0, 4), (1, 2), (2, 2)] := by kernel_rfl
@[go_sem] theorem eqi_42 : eqInfo Tryz.prog 42 = some [(0, 4), (1, 2), (2, 2)] := by kernel_rfl
@[go_sem] theorem eqi_75 : eqInfo Tryz.prog 75 = some [(0, 2), (1, 2), (2, 2), (3, 2), (4, 2)] := by kernel_rfl
@[go_sem] theorem eqi_76 : eqInfo Tryz.prog 76 = some [(0, 2), (1, 2), (2, 2), (3, 2), (4, 2)] := by kernel_rfl
@[go_sem] theorem eqi_100 : eqInfo Tryz.prog 100 = some [(0, 2), (1, 2), (2, 2)] := by kernel_rfl
@[go_sem] theorem eqi_101 : eqInfo Tryz.prog 101 = some [(0, 2), (1, 2), (2, 2)] := by kernel_rfl
@[go_sem] theorem eqi_124 : eqInfo Tryz.prog 124 = some [(0, 2), (1, 2), (2, 2), (3, 2)] := by kernel_rfl
@[go_sem] theorem eqi_125 : eqInfo Tryz.prog 125 = some [(0, 2), (1, 2), (2, 2), (3, 2)] := by kernel_rfl
theorem mixed : Tryz.prog.follows .mixedOrders = true := by kernel_rfl
end Go.Proofs.YtpjjjonplikilaaGreat
