/- What the type table of this translation says, row by row; which functions have bodies. Conditions: none. -/
import Derived.Test.YtoekafodjjeboaaDoorProg
import Derived.Test.YtoekafodjjeboaaDoorPmp
import Derived.KernelRfl
namespace Go.PM
open Go.Proofs
theorem Tryd.tf0 : tf Tryd.prog 0 = some ⟨.other, 1, 0, false, some (.tuple #[])⟩ := by kernel_rfl
theorem Tryd.tf1 : tf Tryd.prog 1 = some ⟨.func, 1, 8, false, some (.nilFunc)⟩ := by kernel_rfl
theorem Tryd.tf2 : tf Tryd.prog 2 = some ⟨.int .i64, 1, 8, false, some (.int .i64 0)⟩ := by kernel_rfl
theorem Tryd.tf3 : tf Tryd.prog 3 = some ⟨.int .i64, 1, 8, false, some (.int .i64 0)⟩ := by kernel_rfl
theorem Tryd.tf4 : tf Tryd.prog 4 = some ⟨.bool, 1, 1, false, some (.bool false)⟩ := by kernel_rfl
theorem Tryd.tf5 : tf Tryd.prog 5 = some ⟨.int .u8, 1, 1, false, some (.int .u8 0)⟩ := by kernel_rfl
theorem Tryd.tf6 : tf Tryd.prog 6 = some ⟨.int .u8, 1, 1, false, some (.int .u8 0)⟩ := by kernel_rfl
theorem Tryd.tf7 : tf Tryd.prog 7 = some ⟨.struct [(0, 1, false), (1, 1, false), (2, 1, false), (3, 1, false)], 4, 24, true, some (.agg #[.int .i64 0, .int .i64 0, .bool false, .int .u8 0])⟩ := by kernel_rfl
theorem Tryd.tf8 : tf Tryd.prog 8 = some ⟨.struct [(0, 1, false), (1, 1, false), (2, 1, false), (3, 1, false)], 4, 24, true, some (.agg #[.int .i64 0, .int .i64 0, .bool false, .int .u8 0])⟩ := by kernel_rfl
theorem Tryd.tf9 : tf Tryd.prog 9 = some ⟨.string, 1, 16, false, some (.string ⟨#[]⟩)⟩ := by kernel_rfl
theorem Tryd.tf10 : tf Tryd.prog 10 = some ⟨.string, 1, 16, false, some (.string ⟨#[]⟩)⟩ := by kernel_rfl
theorem Tryd.tf11 : tf Tryd.prog 11 = some ⟨.string, 1, 16, false, some (.string ⟨#[]⟩)⟩ := by kernel_rfl
theorem Tryd.tf12 : tf Tryd.prog 12 = some ⟨.int .u64, 1, 8, false, some (.int .u64 0)⟩ := by kernel_rfl
theorem Tryd.tf13 : tf Tryd.prog 13 = some ⟨.struct [(0, 1, false), (1, 1, false)], 2, 24, true, some (.agg #[.string ⟨#[]⟩, .int .u64 0])⟩ := by kernel_rfl
theorem Tryd.tf14 : tf Tryd.prog 14 = some ⟨.struct [(0, 1, false), (1, 1, false)], 2, 24, true, some (.agg #[.string ⟨#[]⟩, .int .u64 0])⟩ := by kernel_rfl
theorem Tryd.tf15 : tf Tryd.prog 15 = some ⟨.pointer 69, 1, 8, false, some (.pointer none)⟩ := by kernel_rfl
theorem Tryd.tf16 : tf Tryd.prog 16 = some ⟨.pointer 72, 1, 8, false, some (.pointer none)⟩ := by kernel_rfl
theorem Tryd.tf17 : tf Tryd.prog 17 = some ⟨.pointer 81, 1, 8, false, some (.pointer none)⟩ := by kernel_rfl
theorem Tryd.tf18 : tf Tryd.prog 18 = some ⟨.struct [(0, 1, false)], 1, 8, true, some (.agg #[.pointer none])⟩ := by kernel_rfl
theorem Tryd.tf19 : tf Tryd.prog 19 = some ⟨.struct [(0, 1, false)], 1, 8, true, some (.agg #[.pointer none])⟩ := by kernel_rfl
theorem Tryd.tf20 : tf Tryd.prog 20 = some ⟨.other, 1, 16, false, some (.nilIface)⟩ := by kernel_rfl
theorem Tryd.tf21 : tf Tryd.prog 21 = some ⟨.int .i32, 1, 4, false, some (.int .i32 0)⟩ := by kernel_rfl
theorem Tryd.tf22 : tf Tryd.prog 22 = some ⟨.slice 5 1 1, 1, 24, false, some (.slice none 0 0)⟩ := by kernel_rfl
theorem Tryd.tf23 : tf Tryd.prog 23 = some ⟨.func, 1, 8, false, some (.nilFunc)⟩ := by kernel_rfl
theorem Tryd.tf24 : tf Tryd.prog 24 = some ⟨.array 32 5 1 false, 32, 32, true, some (.agg #[.int .u8 0, .int .u8 0, .int .u8 0, .int .u8 0, .int .u8 0, .int .u8 0, .int .u8 0, .int .u8 0, .int .u8 0, .int .u8 0, .int .u8 0, .int .u8 0, .int .u8 0, .int .u8 0, .int .u8 0, .int .u8 0, .int .u8 0, .int .u8 0, .int .u8 0, .int .u8 0, .int .u8 0, .int .u8 0, .int .u8 0, .int .u8 0, .int .u8 0, .int .u8 0, .int .u8 0, .int .u8 0, .int .u8 0, .int .u8 0, .int .u8 0, .int .u8 0])⟩ := by kernel_rfl
theorem Tryd.teq24 : teq Tryd.prog 24 = some (List.replicate 32 (.int .u8)) := by kernel_rfl
theorem Tryd.tf25 : tf Tryd.prog 25 = some ⟨.func, 1, 8, false, some (.nilFunc)⟩ := by kernel_rfl
theorem Tryd.tf26 : tf Tryd.prog 26 = some ⟨.func, 1, 8, false, some (.nilFunc)⟩ := by kernel_rfl
theorem Tryd.tf27 : tf Tryd.prog 27 = some ⟨.slice 9 1 16, 1, 24, false, some (.slice none 0 0)⟩ := by kernel_rfl
theorem Tryd.tf28 : tf Tryd.prog 28 = some ⟨.func, 1, 8, false, some (.nilFunc)⟩ := by kernel_rfl
theorem Tryd.tf29 : tf Tryd.prog 29 = some ⟨.int .u32, 1, 4, false, some (.int .u32 0)⟩ := by kernel_rfl
theorem Tryd.tf30 : tf Tryd.prog 30 = some ⟨.array 8 29 1 false, 8, 32, true, some (.agg #[.int .u32 0, .int .u32 0, .int .u32 0, .int .u32 0, .int .u32 0, .int .u32 0, .int .u32 0, .int .u32 0])⟩ := by kernel_rfl
theorem Tryd.teq30 : teq Tryd.prog 30 = some (List.replicate 8 (.int .u32)) := by kernel_rfl
theorem Tryd.tf31 : tf Tryd.prog 31 = some ⟨.array 64 5 1 false, 64, 64, true, some (.agg #[.int .u8 0, .int .u8 0, .int .u8 0, .int .u8 0, .int .u8 0, .int .u8 0, .int .u8 0, .int .u8 0, .int .u8 0, .int .u8 0, .int .u8 0, .int .u8 0, .int .u8 0, .int .u8 0, .int .u8 0, .int .u8 0, .int .u8 0, .int .u8 0, .int .u8 0, .int .u8 0, .int .u8 0, .int .u8 0, .int .u8 0, .int .u8 0, .int .u8 0, .int .u8 0, .int .u8 0, .int .u8 0, .int .u8 0, .int .u8 0, .int .u8 0, .int .u8 0, .int .u8 0, .int .u8 0, .int .u8 0, .int .u8 0, .int .u8 0, .int .u8 0, .int .u8 0, .int .u8 0, .int .u8 0, .int .u8 0, .int .u8 0, .int .u8 0, .int .u8 0, .int .u8 0, .int .u8 0, .int .u8 0, .int .u8 0, .int .u8 0, .int .u8 0, .int .u8 0, .int .u8 0, .int .u8 0, .int .u8 0, .int .u8 0, .int .u8 0, .int .u8 0, .int .u8 0, .int .u8 0, .int .u8 0, .int .u8 0, .int .u8 0, .int .u8 0])⟩ := by kernel_rfl
theorem Tryd.teq31 : teq Tryd.prog 31 = some (List.replicate 64 (.int .u8)) := by kernel_rfl
theorem Tryd.tf32 : tf Tryd.prog 32 = some ⟨.int .u64, 1, 8, false, some (.int .u64 0)⟩ := by kernel_rfl
theorem Tryd.tf33 : tf Tryd.prog 33 = some ⟨.struct [(0, 8, true), (8, 64, true), (72, 1, false)], 73, 104, true, some (.agg #[.int .u32 0, .int .u32 0, .int .u32 0, .int .u32 0, .int .u32 0, .int .u32 0, .int .u32 0, .int .u32 0, .int .u8 0, .int .u8 0, .int .u8 0, .int .u8 0, .int .u8 0, .int .u8 0, .int .u8 0, .int .u8 0, .int .u8 0, .int .u8 0, .int .u8 0, .int .u8 0, .int .u8 0, .int .u8 0, .int .u8 0, .int .u8 0, .int .u8 0, .int .u8 0, .int .u8 0, .int .u8 0, .int .u8 0, .int .u8 0, .int .u8 0, .int .u8 0, .int .u8 0, .int .u8 0, .int .u8 0, .int .u8 0, .int .u8 0, .int .u8 0, .int .u8 0, .int .u8 0, .int .u8 0, .int .u8 0, .int .u8 0, .int .u8 0, .int .u8 0, .int .u8 0, .int .u8 0, .int .u8 0, .int .u8 0, .int .u8 0, .int .u8 0, .int .u8 0, .int .u8 0, .int .u8 0, .int .u8 0, .int .u8 0, .int .u8 0, .int .u8 0, .int .u8 0, .int .u8 0, .int .u8 0, .int .u8 0, .int .u8 0, .int .u8 0, .int .u8 0, .int .u8 0, .int .u8 0, .int .u8 0, .int .u8 0, .int .u8 0, .int .u8 0, .int .u8 0, .int .u64 0])⟩ := by kernel_rfl
theorem Tryd.tf34 : tf Tryd.prog 34 = some ⟨.struct [(0, 8, true), (8, 64, true), (72, 1, false)], 73, 104, true, some (.agg #[.int .u32 0, .int .u32 0, .int .u32 0, .int .u32 0, .int .u32 0, .int .u32 0, .int .u32 0, .int .u32 0, .int .u8 0, .int .u8 0, .int .u8 0, .int .u8 0, .int .u8 0, .int .u8 0, .int .u8 0, .int .u8 0, .int .u8 0, .int .u8 0, .int .u8 0, .int .u8 0, .int .u8 0, .int .u8 0, .int .u8 0, .int .u8 0, .int .u8 0, .int .u8 0, .int .u8 0, .int .u8 0, .int .u8 0, .int .u8 0, .int .u8 0, .int .u8 0, .int .u8 0, .int .u8 0, .int .u8 0, .int .u8 0, .int .u8 0, .int .u8 0, .int .u8 0, .int .u8 0, .int .u8 0, .int .u8 0, .int .u8 0, .int .u8 0, .int .u8 0, .int .u8 0, .int .u8 0, .int .u8 0, .int .u8 0, .int .u8 0, .int .u8 0, .int .u8 0, .int .u8 0, .int .u8 0, .int .u8 0, .int .u8 0, .int .u8 0, .int .u8 0, .int .u8 0, .int .u8 0, .int .u8 0, .int .u8 0, .int .u8 0, .int .u8 0, .int .u8 0, .int .u8 0, .int .u8 0, .int .u8 0, .int .u8 0, .int .u8 0, .int .u8 0, .int .u8 0, .int .u64 0])⟩ := by kernel_rfl
theorem Tryd.tf35 : tf Tryd.prog 35 = some ⟨.func, 1, 8, false, some (.nilFunc)⟩ := by kernel_rfl
theorem Tryd.tf36 : tf Tryd.prog 36 = some ⟨.func, 1, 8, false, some (.nilFunc)⟩ := by kernel_rfl
theorem Tryd.tf37 : tf Tryd.prog 37 = some ⟨.func, 1, 8, false, some (.nilFunc)⟩ := by kernel_rfl
theorem Tryd.tf38 : tf Tryd.prog 38 = some ⟨.func, 1, 8, false, some (.nilFunc)⟩ := by kernel_rfl
theorem Tryd.tf39 : tf Tryd.prog 39 = some ⟨.func, 1, 8, false, some (.nilFunc)⟩ := by kernel_rfl
theorem Tryd.tf40 : tf Tryd.prog 40 = some ⟨.func, 1, 8, false, some (.nilFunc)⟩ := by kernel_rfl
theorem Tryd.tf41 : tf Tryd.prog 41 = some ⟨.func, 1, 8, false, some (.nilFunc)⟩ := by kernel_rfl
theorem Tryd.tf42 : tf Tryd.prog 42 = some ⟨.func, 1, 8, false, some (.nilFunc)⟩ := by kernel_rfl
theorem Tryd.tf43 : tf Tryd.prog 43 = some ⟨.array 16 5 1 false, 16, 16, true, some (.agg #[.int .u8 0, .int .u8 0, .int .u8 0, .int .u8 0, .int .u8 0, .int .u8 0, .int .u8 0, .int .u8 0, .int .u8 0, .int .u8 0, .int .u8 0, .int .u8 0, .int .u8 0, .int .u8 0, .int .u8 0, .int .u8 0])⟩ := by kernel_rfl
theorem Tryd.teq43 : teq Tryd.prog 43 = some (List.replicate 16 (.int .u8)) := by kernel_rfl
theorem Tryd.tf44 : tf Tryd.prog 44 = some ⟨.array 16 5 1 false, 16, 16, true, some (.agg #[.int .u8 0, .int .u8 0, .int .u8 0, .int .u8 0, .int .u8 0, .int .u8 0, .int .u8 0, .int .u8 0, .int .u8 0, .int .u8 0, .int .u8 0, .int .u8 0, .int .u8 0, .int .u8 0, .int .u8 0, .int .u8 0])⟩ := by kernel_rfl
theorem Tryd.teq44 : teq Tryd.prog 44 = some (List.replicate 16 (.int .u8)) := by kernel_rfl
theorem Tryd.tf45 : tf Tryd.prog 45 = some ⟨.func, 1, 8, false, some (.nilFunc)⟩ := by kernel_rfl
theorem Tryd.tf46 : tf Tryd.prog 46 = some ⟨.func, 1, 8, false, some (.nilFunc)⟩ := by kernel_rfl
theorem Tryd.tf47 : tf Tryd.prog 47 = some ⟨.func, 1, 8, false, some (.nilFunc)⟩ := by kernel_rfl
theorem Tryd.tf48 : tf Tryd.prog 48 = some ⟨.array 2 5 1 false, 2, 2, true, some (.agg #[.int .u8 0, .int .u8 0])⟩ := by kernel_rfl
theorem Tryd.teq48 : teq Tryd.prog 48 = some (List.replicate 2 (.int .u8)) := by kernel_rfl
theorem Tryd.tf49 : tf Tryd.prog 49 = some ⟨.func, 1, 8, false, some (.nilFunc)⟩ := by kernel_rfl
theorem Tryd.tf50 : tf Tryd.prog 50 = some ⟨.func, 1, 8, false, some (.nilFunc)⟩ := by kernel_rfl
theorem Tryd.tf51 : tf Tryd.prog 51 = some ⟨.func, 1, 8, false, some (.nilFunc)⟩ := by kernel_rfl
theorem Tryd.tf52 : tf Tryd.prog 52 = some ⟨.func, 1, 8, false, some (.nilFunc)⟩ := by kernel_rfl
theorem Tryd.tf53 : tf Tryd.prog 53 = some ⟨.func, 1, 8, false, some (.nilFunc)⟩ := by kernel_rfl
theorem Tryd.tf54 : tf Tryd.prog 54 = some ⟨.array 64 29 1 false, 64, 256, true, some (.agg #[.int .u32 0, .int .u32 0, .int .u32 0, .int .u32 0, .int .u32 0, .int .u32 0, .int .u32 0, .int .u32 0, .int .u32 0, .int .u32 0, .int .u32 0, .int .u32 0, .int .u32 0, .int .u32 0, .int .u32 0, .int .u32 0, .int .u32 0, .int .u32 0, .int .u32 0, .int .u32 0, .int .u32 0, .int .u32 0, .int .u32 0, .int .u32 0, .int .u32 0, .int .u32 0, .int .u32 0, .int .u32 0, .int .u32 0, .int .u32 0, .int .u32 0, .int .u32 0, .int .u32 0, .int .u32 0, .int .u32 0, .int .u32 0, .int .u32 0, .int .u32 0, .int .u32 0, .int .u32 0, .int .u32 0, .int .u32 0, .int .u32 0, .int .u32 0, .int .u32 0, .int .u32 0, .int .u32 0, .int .u32 0, .int .u32 0, .int .u32 0, .int .u32 0, .int .u32 0, .int .u32 0, .int .u32 0, .int .u32 0, .int .u32 0, .int .u32 0, .int .u32 0, .int .u32 0, .int .u32 0, .int .u32 0, .int .u32 0, .int .u32 0, .int .u32 0])⟩ := by kernel_rfl
theorem Tryd.teq54 : teq Tryd.prog 54 = some (List.replicate 64 (.int .u32)) := by kernel_rfl
theorem Tryd.tf55 : tf Tryd.prog 55 = some ⟨.func, 1, 8, false, some (.nilFunc)⟩ := by kernel_rfl
theorem Tryd.tf56 : tf Tryd.prog 56 = some ⟨.func, 1, 8, false, some (.nilFunc)⟩ := by kernel_rfl
theorem Tryd.tf57 : tf Tryd.prog 57 = some ⟨.func, 1, 8, false, some (.nilFunc)⟩ := by kernel_rfl
theorem Tryd.tf58 : tf Tryd.prog 58 = some ⟨.func, 1, 8, false, some (.nilFunc)⟩ := by kernel_rfl
theorem Tryd.tf59 : tf Tryd.prog 59 = some ⟨.func, 1, 8, false, some (.nilFunc)⟩ := by kernel_rfl
theorem Tryd.tf60 : tf Tryd.prog 60 = some ⟨.func, 1, 8, false, some (.nilFunc)⟩ := by kernel_rfl
theorem Tryd.tf61 : tf Tryd.prog 61 = some ⟨.func, 1, 8, false, some (.nilFunc)⟩ := by kernel_rfl
theorem Tryd.tf62 : tf Tryd.prog 62 = some ⟨.int .u64, 1, 8, false, some (.int .u64 0)⟩ := by kernel_rfl
theorem Tryd.tf63 : tf Tryd.prog 63 = some ⟨.array 4 29 1 false, 4, 16, true, some (.agg #[.int .u32 0, .int .u32 0, .int .u32 0, .int .u32 0])⟩ := by kernel_rfl
theorem Tryd.teq63 : teq Tryd.prog 63 = some (List.replicate 4 (.int .u32)) := by kernel_rfl
theorem Tryd.tf64 : tf Tryd.prog 64 = some ⟨.slice 29 1 4, 1, 24, false, some (.slice none 0 0)⟩ := by kernel_rfl
theorem Tryd.tf65 : tf Tryd.prog 65 = some ⟨.func, 1, 8, false, some (.nilFunc)⟩ := by kernel_rfl
theorem Tryd.tf66 : tf Tryd.prog 66 = some ⟨.func, 1, 8, false, some (.nilFunc)⟩ := by kernel_rfl
theorem Tryd.tf67 : tf Tryd.prog 67 = some ⟨.func, 1, 8, false, some (.nilFunc)⟩ := by kernel_rfl
theorem Tryd.tf68 : tf Tryd.prog 68 = some ⟨.struct [(0, 1, false), (1, 1, false), (2, 1, false), (3, 1, false)], 4, 40, true, some (.agg #[.pointer none, .pointer none, .pointer none, .string ⟨#[]⟩])⟩ := by kernel_rfl
theorem Tryd.tf69 : tf Tryd.prog 69 = some ⟨.struct [(0, 1, false), (1, 1, false), (2, 1, false), (3, 1, false)], 4, 40, true, some (.agg #[.pointer none, .pointer none, .pointer none, .string ⟨#[]⟩])⟩ := by kernel_rfl
theorem Tryd.tf70 : tf Tryd.prog 70 = some ⟨.array 0 16 1 false, 0, 0, true, some (.agg #[])⟩ := by kernel_rfl
theorem Tryd.tf71 : tf Tryd.prog 71 = some ⟨.struct [(0, 0, true)], 0, 0, true, some (.agg #[])⟩ := by kernel_rfl
theorem Tryd.tf72 : tf Tryd.prog 72 = some ⟨.struct [(0, 0, true)], 0, 0, true, some (.agg #[])⟩ := by kernel_rfl
theorem Tryd.tf73 : tf Tryd.prog 73 = some ⟨.func, 1, 8, false, some (.nilFunc)⟩ := by kernel_rfl
theorem Tryd.tf74 : tf Tryd.prog 74 = some ⟨.int .u8, 1, 1, false, some (.int .u8 0)⟩ := by kernel_rfl
theorem Tryd.tf75 : tf Tryd.prog 75 = some ⟨.int .u8, 1, 1, false, some (.int .u8 0)⟩ := by kernel_rfl
theorem Tryd.tf76 : tf Tryd.prog 76 = some ⟨.func, 1, 8, false, some (.nilFunc)⟩ := by kernel_rfl
theorem Tryd.tf77 : tf Tryd.prog 77 = some ⟨.pointer 5, 1, 8, false, some (.pointer none)⟩ := by kernel_rfl
theorem Tryd.tf78 : tf Tryd.prog 78 = some ⟨.int .i32, 1, 4, false, some (.int .i32 0)⟩ := by kernel_rfl
theorem Tryd.tf79 : tf Tryd.prog 79 = some ⟨.int .i32, 1, 4, false, some (.int .i32 0)⟩ := by kernel_rfl
theorem Tryd.tf80 : tf Tryd.prog 80 = some ⟨.struct [(0, 1, false), (1, 1, false), (2, 1, false), (3, 1, false), (4, 1, false), (5, 1, false), (6, 1, false), (7, 1, false), (8, 1, false), (9, 1, false), (10, 1, false)], 11, 48, true, some (.agg #[.int .u64 0, .int .u64 0, .int .u32 0, .int .u8 0, .int .u8 0, .int .u8 0, .int .u8 0, .nilFunc, .pointer none, .int .i32 0, .int .i32 0])⟩ := by kernel_rfl
theorem Tryd.tf81 : tf Tryd.prog 81 = some ⟨.struct [(0, 1, false), (1, 1, false), (2, 1, false), (3, 1, false), (4, 1, false), (5, 1, false), (6, 1, false), (7, 1, false), (8, 1, false), (9, 1, false), (10, 1, false)], 11, 48, true, some (.agg #[.int .u64 0, .int .u64 0, .int .u32 0, .int .u8 0, .int .u8 0, .int .u8 0, .int .u8 0, .nilFunc, .pointer none, .int .i32 0, .int .i32 0])⟩ := by kernel_rfl
theorem Tryd.tf82 : tf Tryd.prog 82 = some ⟨.other, 1, 8, false, some (.pointer none)⟩ := by kernel_rfl
theorem Tryd.call3 : callable Tryd.prog 3 = true := by kernel_rfl
theorem Tryd.call4 : callable Tryd.prog 4 = true := by kernel_rfl
theorem Tryd.call5 : callable Tryd.prog 5 = true := by kernel_rfl
theorem Tryd.call6 : callable Tryd.prog 6 = true := by kernel_rfl
theorem Tryd.call7 : callable Tryd.prog 7 = true := by kernel_rfl
theorem Tryd.call8 : callable Tryd.prog 8 = true := by kernel_rfl
theorem Tryd.call9 : callable Tryd.prog 9 = true := by kernel_rfl
theorem Tryd.call10 : callable Tryd.prog 10 = true := by kernel_rfl
theorem Tryd.call11 : callable Tryd.prog 11 = true := by kernel_rfl
theorem Tryd.call12 : callable Tryd.prog 12 = true := by kernel_rfl
theorem Tryd.call13 : callable Tryd.prog 13 = true := by kernel_rfl
theorem Tryd.call14 : callable Tryd.prog 14 = true := by kernel_rfl
theorem Tryd.call15 : callable Tryd.prog 15 = true := by kernel_rfl
theorem Tryd.call16 : callable Tryd.prog 16 = true := by kernel_rfl
theorem Tryd.call17 : callable Tryd.prog 17 = true := by kernel_rfl
theorem Tryd.call18 : callable Tryd.prog 18 = true := by kernel_rfl
theorem Tryd.call19 : callable Tryd.prog 19 = true := by kernel_rfl
theorem Tryd.call20 : callable Tryd.prog 20 = true := by kernel_rfl
theorem Tryd.call21 : callable Tryd.prog 21 = true := by kernel_rfl
theorem Tryd.call22 : callable Tryd.prog 22 = true := by kernel_rfl
theorem Tryd.call23 : callable Tryd.prog 23 = true := by kernel_rfl
theorem Tryd.call24 : callable Tryd.prog 24 = true := by kernel_rfl
theorem Tryd.call25 : callable Tryd.prog 25 = true := by kernel_rfl
theorem Tryd.call26 : callable Tryd.prog 26 = true := by kernel_rfl
theorem Tryd.call27 : callable Tryd.prog 27 = true := by kernel_rfl
theorem Tryd.call28 : callable Tryd.prog 28 = true := by kernel_rfl
theorem Tryd.call29 : callable Tryd.prog 29 = true := by kernel_rfl
theorem Tryd.call30 : callable Tryd.prog 30 = true := by kernel_rfl
theorem Tryd.call31 : callable Tryd.prog 31 = true := by kernel_rfl
theorem Tryd.call32 : callable Tryd.prog 32 = true := by kernel_rfl
theorem Tryd.call33 : callable Tryd.prog 33 = true := by kernel_rfl
theorem Tryd.call34 : callable Tryd.prog 34 = true := by kernel_rfl
theorem Tryd.call35 : callable Tryd.prog 35 = true := by kernel_rfl
theorem Tryd.call36 : callable Tryd.prog 36 = true := by kernel_rfl
theorem Tryd.call37 : callable Tryd.prog 37 = true := by kernel_rfl
theorem Tryd.call38 : callable Tryd.prog 38 = true := by kernel_rfl
theorem Tryd.call39 : callable Tryd.prog 39 = true := by kernel_rfl
theorem Tryd.call40 : callable Tryd.prog 40 = true := by kernel_rfl
end Go.PM
