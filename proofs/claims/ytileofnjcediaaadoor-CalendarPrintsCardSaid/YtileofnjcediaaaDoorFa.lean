/- What the type table of this translation says, row by row; which functions have bodies. Conditions: none. -/
import Derived.Test.YtileofnjcediaaaDoorProg
import Derived.Test.YtileofnjcediaaaDoorPmp
import Derived.KernelRfl
namespace Go.PM
open Go.Proofs
theorem Tryd.tf0 : tf Tryd.prog 0 = some ⟨.other, 1, 0, false, some (.tuple #[])⟩ := by kernel_rfl
theorem Tryd.tf1 : tf Tryd.prog 1 = some ⟨.func, 1, 8, false, some (.nilFunc)⟩ := by kernel_rfl
theorem Tryd.tf2 : tf Tryd.prog 2 = some ⟨.int .i64, 1, 8, false, some (.int .i64 0)⟩ := by kernel_rfl
theorem Tryd.tf3 : tf Tryd.prog 3 = some ⟨.int .i64, 1, 8, false, some (.int .i64 0)⟩ := by kernel_rfl
theorem Tryd.tf4 : tf Tryd.prog 4 = some ⟨.bool, 1, 1, false, some (.bool false)⟩ := by kernel_rfl
theorem Tryd.tf5 : tf Tryd.prog 5 = some ⟨.int .u8, 1, 1, false, some (.int .u8 0)⟩ := by kernel_rfl
theorem Tryd.tf6 : tf Tryd.prog 6 = some ⟨.int .u8, 1, 1, false, some (.int .u8 0)⟩ := by kernel_rfl
theorem Tryd.tf7 : tf Tryd.prog 7 = some ⟨.struct [(0, 1, false), (1, 1, false), (2, 1, false), (3, 1, false)], 4, 24, true, some (.agg #[.int .i64 0, .int .i64 0, .bool false, .int .u8 0])⟩ := by kernel_rfl
theorem Tryd.tf8 : tf Tryd.prog 8 = some ⟨.struct [(0, 1, false), (1, 1, false), (2, 1, false), (3, 1, false)], 4, 24, true, some (.agg #[.int .i64 0, .int .i64 0, .bool false, .int .u8 0])⟩ := by kernel_rfl
theorem Tryd.tf9 : tf Tryd.prog 9 = some ⟨.string, 1, 16, false, some (.string ⟨#[]⟩)⟩ := by kernel_rfl
theorem Tryd.tf10 : tf Tryd.prog 10 = some ⟨.string, 1, 16, false, some (.string ⟨#[]⟩)⟩ := by kernel_rfl
theorem Tryd.tf11 : tf Tryd.prog 11 = some ⟨.string, 1, 16, false, some (.string ⟨#[]⟩)⟩ := by kernel_rfl
theorem Tryd.tf12 : tf Tryd.prog 12 = some ⟨.int .u64, 1, 8, false, some (.int .u64 0)⟩ := by kernel_rfl
theorem Tryd.tf13 : tf Tryd.prog 13 = some ⟨.struct [(0, 1, false), (1, 1, false)], 2, 24, true, some (.agg #[.string ⟨#[]⟩, .int .u64 0])⟩ := by kernel_rfl
theorem Tryd.tf14 : tf Tryd.prog 14 = some ⟨.struct [(0, 1, false), (1, 1, false)], 2, 24, true, some (.agg #[.string ⟨#[]⟩, .int .u64 0])⟩ := by kernel_rfl
theorem Tryd.tf15 : tf Tryd.prog 15 = some ⟨.pointer 107, 1, 8, false, some (.pointer none)⟩ := by kernel_rfl
theorem Tryd.tf16 : tf Tryd.prog 16 = some ⟨.pointer 110, 1, 8, false, some (.pointer none)⟩ := by kernel_rfl
theorem Tryd.tf17 : tf Tryd.prog 17 = some ⟨.pointer 119, 1, 8, false, some (.pointer none)⟩ := by kernel_rfl
theorem Tryd.tf18 : tf Tryd.prog 18 = some ⟨.struct [(0, 1, false)], 1, 8, true, some (.agg #[.pointer none])⟩ := by kernel_rfl
theorem Tryd.tf19 : tf Tryd.prog 19 = some ⟨.struct [(0, 1, false)], 1, 8, true, some (.agg #[.pointer none])⟩ := by kernel_rfl
theorem Tryd.tf20 : tf Tryd.prog 20 = some ⟨.other, 1, 16, false, some (.nilIface)⟩ := by kernel_rfl
theorem Tryd.tf21 : tf Tryd.prog 21 = some ⟨.int .i32, 1, 4, false, some (.int .i32 0)⟩ := by kernel_rfl
theorem Tryd.tf22 : tf Tryd.prog 22 = some ⟨.int .i64, 1, 8, false, some (.int .i64 0)⟩ := by kernel_rfl
theorem Tryd.tf23 : tf Tryd.prog 23 = some ⟨.other, 1, 0, false, some (.tuple #[.int .i64 0, .int .i64 0])⟩ := by kernel_rfl
theorem Tryd.tf24 : tf Tryd.prog 24 = some ⟨.func, 1, 8, false, some (.nilFunc)⟩ := by kernel_rfl
theorem Tryd.tf25 : tf Tryd.prog 25 = some ⟨.other, 1, 0, false, some (.tuple #[.int .i64 0, .int .i64 0, .int .i64 0, .int .i64 0])⟩ := by kernel_rfl
theorem Tryd.tf26 : tf Tryd.prog 26 = some ⟨.func, 1, 8, false, some (.nilFunc)⟩ := by kernel_rfl
theorem Tryd.tf27 : tf Tryd.prog 27 = some ⟨.func, 1, 8, false, some (.nilFunc)⟩ := by kernel_rfl
theorem Tryd.tf28 : tf Tryd.prog 28 = some ⟨.func, 1, 8, false, some (.nilFunc)⟩ := by kernel_rfl
theorem Tryd.tf29 : tf Tryd.prog 29 = some ⟨.struct [(0, 1, false), (1, 1, false)], 2, 16, true, some (.agg #[.int .i64 0, .int .i64 0])⟩ := by kernel_rfl
theorem Tryd.tf30 : tf Tryd.prog 30 = some ⟨.struct [(0, 1, false), (1, 1, false)], 2, 16, true, some (.agg #[.int .i64 0, .int .i64 0])⟩ := by kernel_rfl
theorem Tryd.teq30 : teq Tryd.prog 30 = some [.int .i64, .int .i64] := by kernel_rfl
theorem Tryd.tf31 : tf Tryd.prog 31 = some ⟨.other, 1, 0, false, some (.tuple #[.agg #[.int .i64 0, .int .i64 0], .int .i64 0])⟩ := by kernel_rfl
theorem Tryd.tf32 : tf Tryd.prog 32 = some ⟨.func, 1, 8, false, some (.nilFunc)⟩ := by kernel_rfl
theorem Tryd.tf33 : tf Tryd.prog 33 = some ⟨.func, 1, 8, false, some (.nilFunc)⟩ := by kernel_rfl
theorem Tryd.tf34 : tf Tryd.prog 34 = some ⟨.func, 1, 8, false, some (.nilFunc)⟩ := by kernel_rfl
theorem Tryd.tf35 : tf Tryd.prog 35 = some ⟨.func, 1, 8, false, some (.nilFunc)⟩ := by kernel_rfl
theorem Tryd.tf36 : tf Tryd.prog 36 = some ⟨.func, 1, 8, false, some (.nilFunc)⟩ := by kernel_rfl
theorem Tryd.tf37 : tf Tryd.prog 37 = some ⟨.func, 1, 8, false, some (.nilFunc)⟩ := by kernel_rfl
theorem Tryd.tf38 : tf Tryd.prog 38 = some ⟨.func, 1, 8, false, some (.nilFunc)⟩ := by kernel_rfl
theorem Tryd.tf39 : tf Tryd.prog 39 = some ⟨.func, 1, 8, false, some (.nilFunc)⟩ := by kernel_rfl
theorem Tryd.tf40 : tf Tryd.prog 40 = some ⟨.func, 1, 8, false, some (.nilFunc)⟩ := by kernel_rfl
theorem Tryd.tf41 : tf Tryd.prog 41 = some ⟨.slice 3 1 8, 1, 24, false, some (.slice none 0 0)⟩ := by kernel_rfl
theorem Tryd.tf42 : tf Tryd.prog 42 = some ⟨.slice 30 2 16, 1, 24, false, some (.slice none 0 0)⟩ := by kernel_rfl
theorem Tryd.tf43 : tf Tryd.prog 43 = some ⟨.func, 1, 8, false, some (.nilFunc)⟩ := by kernel_rfl
theorem Tryd.tf44 : tf Tryd.prog 44 = some ⟨.other, 1, 0, false, some (.tuple #[.agg #[.int .i64 0, .int .i64 0], .bool false])⟩ := by kernel_rfl
theorem Tryd.tf45 : tf Tryd.prog 45 = some ⟨.func, 1, 8, false, some (.nilFunc)⟩ := by kernel_rfl
theorem Tryd.tf46 : tf Tryd.prog 46 = some ⟨.func, 1, 8, false, some (.nilFunc)⟩ := by kernel_rfl
theorem Tryd.tf47 : tf Tryd.prog 47 = some ⟨.func, 1, 8, false, some (.nilFunc)⟩ := by kernel_rfl
theorem Tryd.tf48 : tf Tryd.prog 48 = some ⟨.func, 1, 8, false, some (.nilFunc)⟩ := by kernel_rfl
theorem Tryd.tf49 : tf Tryd.prog 49 = some ⟨.func, 1, 8, false, some (.nilFunc)⟩ := by kernel_rfl
theorem Tryd.tf50 : tf Tryd.prog 50 = some ⟨.func, 1, 8, false, some (.nilFunc)⟩ := by kernel_rfl
theorem Tryd.tf51 : tf Tryd.prog 51 = some ⟨.func, 1, 8, false, some (.nilFunc)⟩ := by kernel_rfl
theorem Tryd.tf52 : tf Tryd.prog 52 = some ⟨.slice 9 1 16, 1, 24, false, some (.slice none 0 0)⟩ := by kernel_rfl
theorem Tryd.tf53 : tf Tryd.prog 53 = some ⟨.slice 5 1 1, 1, 24, false, some (.slice none 0 0)⟩ := by kernel_rfl
theorem Tryd.tf54 : tf Tryd.prog 54 = some ⟨.func, 1, 8, false, some (.nilFunc)⟩ := by kernel_rfl
theorem Tryd.tf55 : tf Tryd.prog 55 = some ⟨.other, 1, 0, false, some (.tuple #[.slice none 0 0, .int .i64 0, .int .i64 0])⟩ := by kernel_rfl
theorem Tryd.tf56 : tf Tryd.prog 56 = some ⟨.func, 1, 8, false, some (.nilFunc)⟩ := by kernel_rfl
theorem Tryd.tf57 : tf Tryd.prog 57 = some ⟨.array 16 5 1 false, 16, 16, true, some (.agg #[.int .u8 0, .int .u8 0, .int .u8 0, .int .u8 0, .int .u8 0, .int .u8 0, .int .u8 0, .int .u8 0, .int .u8 0, .int .u8 0, .int .u8 0, .int .u8 0, .int .u8 0, .int .u8 0, .int .u8 0, .int .u8 0])⟩ := by kernel_rfl
theorem Tryd.teq57 : teq Tryd.prog 57 = some (List.replicate 16 (.int .u8)) := by kernel_rfl
theorem Tryd.tf58 : tf Tryd.prog 58 = some ⟨.array 16 5 1 false, 16, 16, true, some (.agg #[.int .u8 0, .int .u8 0, .int .u8 0, .int .u8 0, .int .u8 0, .int .u8 0, .int .u8 0, .int .u8 0, .int .u8 0, .int .u8 0, .int .u8 0, .int .u8 0, .int .u8 0, .int .u8 0, .int .u8 0, .int .u8 0])⟩ := by kernel_rfl
theorem Tryd.teq58 : teq Tryd.prog 58 = some (List.replicate 16 (.int .u8)) := by kernel_rfl
theorem Tryd.tf59 : tf Tryd.prog 59 = some ⟨.func, 1, 8, false, some (.nilFunc)⟩ := by kernel_rfl
theorem Tryd.tf60 : tf Tryd.prog 60 = some ⟨.func, 1, 8, false, some (.nilFunc)⟩ := by kernel_rfl
theorem Tryd.tf61 : tf Tryd.prog 61 = some ⟨.func, 1, 8, false, some (.nilFunc)⟩ := by kernel_rfl
theorem Tryd.tf62 : tf Tryd.prog 62 = some ⟨.func, 1, 8, false, some (.nilFunc)⟩ := by kernel_rfl
theorem Tryd.tf63 : tf Tryd.prog 63 = some ⟨.other, 1, 0, false, some (.tuple #[.string ⟨#[]⟩, .bool false])⟩ := by kernel_rfl
theorem Tryd.tf64 : tf Tryd.prog 64 = some ⟨.func, 1, 8, false, some (.nilFunc)⟩ := by kernel_rfl
theorem Tryd.tf65 : tf Tryd.prog 65 = some ⟨.other, 1, 0, false, some (.tuple #[.int .i64 0, .bool false])⟩ := by kernel_rfl
theorem Tryd.tf66 : tf Tryd.prog 66 = some ⟨.func, 1, 8, false, some (.nilFunc)⟩ := by kernel_rfl
theorem Tryd.tf67 : tf Tryd.prog 67 = some ⟨.other, 1, 0, false, some (.tuple #[.string ⟨#[]⟩, .string ⟨#[]⟩, .bool false])⟩ := by kernel_rfl
theorem Tryd.tf68 : tf Tryd.prog 68 = some ⟨.func, 1, 8, false, some (.nilFunc)⟩ := by kernel_rfl
theorem Tryd.tf69 : tf Tryd.prog 69 = some ⟨.func, 1, 8, false, some (.nilFunc)⟩ := by kernel_rfl
theorem Tryd.tf70 : tf Tryd.prog 70 = some ⟨.func, 1, 8, false, some (.nilFunc)⟩ := by kernel_rfl
theorem Tryd.tf71 : tf Tryd.prog 71 = some ⟨.func, 1, 8, false, some (.nilFunc)⟩ := by kernel_rfl
theorem Tryd.tf72 : tf Tryd.prog 72 = some ⟨.func, 1, 8, false, some (.nilFunc)⟩ := by kernel_rfl
theorem Tryd.tf73 : tf Tryd.prog 73 = some ⟨.func, 1, 8, false, some (.nilFunc)⟩ := by kernel_rfl
theorem Tryd.tf74 : tf Tryd.prog 74 = some ⟨.other, 1, 0, false, some (.tuple #[.int .i64 0, .int .i64 0, .int .i64 0])⟩ := by kernel_rfl
theorem Tryd.tf75 : tf Tryd.prog 75 = some ⟨.func, 1, 8, false, some (.nilFunc)⟩ := by kernel_rfl
theorem Tryd.tf76 : tf Tryd.prog 76 = some ⟨.other, 1, 0, false, some (.tuple #[.string ⟨#[]⟩, .int .i64 0, .int .i64 0])⟩ := by kernel_rfl
theorem Tryd.tf77 : tf Tryd.prog 77 = some ⟨.func, 1, 8, false, some (.nilFunc)⟩ := by kernel_rfl
theorem Tryd.tf78 : tf Tryd.prog 78 = some ⟨.int .u32, 1, 4, false, some (.int .u32 0)⟩ := by kernel_rfl
theorem Tryd.tf79 : tf Tryd.prog 79 = some ⟨.array 8 78 1 false, 8, 32, true, some (.agg #[.int .u32 0, .int .u32 0, .int .u32 0, .int .u32 0, .int .u32 0, .int .u32 0, .int .u32 0, .int .u32 0])⟩ := by kernel_rfl
theorem Tryd.teq79 : teq Tryd.prog 79 = some (List.replicate 8 (.int .u32)) := by kernel_rfl
theorem Tryd.tf80 : tf Tryd.prog 80 = some ⟨.array 64 5 1 false, 64, 64, true, some (.agg #[.int .u8 0, .int .u8 0, .int .u8 0, .int .u8 0, .int .u8 0, .int .u8 0, .int .u8 0, .int .u8 0, .int .u8 0, .int .u8 0, .int .u8 0, .int .u8 0, .int .u8 0, .int .u8 0, .int .u8 0, .int .u8 0, .int .u8 0, .int .u8 0, .int .u8 0, .int .u8 0, .int .u8 0, .int .u8 0, .int .u8 0, .int .u8 0, .int .u8 0, .int .u8 0, .int .u8 0, .int .u8 0, .int .u8 0, .int .u8 0, .int .u8 0, .int .u8 0, .int .u8 0, .int .u8 0, .int .u8 0, .int .u8 0, .int .u8 0, .int .u8 0, .int .u8 0, .int .u8 0, .int .u8 0, .int .u8 0, .int .u8 0, .int .u8 0, .int .u8 0, .int .u8 0, .int .u8 0, .int .u8 0, .int .u8 0, .int .u8 0, .int .u8 0, .int .u8 0, .int .u8 0, .int .u8 0, .int .u8 0, .int .u8 0, .int .u8 0, .int .u8 0, .int .u8 0, .int .u8 0, .int .u8 0, .int .u8 0, .int .u8 0, .int .u8 0])⟩ := by kernel_rfl
theorem Tryd.teq80 : teq Tryd.prog 80 = some (List.replicate 64 (.int .u8)) := by kernel_rfl
theorem Tryd.tf81 : tf Tryd.prog 81 = some ⟨.int .u64, 1, 8, false, some (.int .u64 0)⟩ := by kernel_rfl
theorem Tryd.tf82 : tf Tryd.prog 82 = some ⟨.struct [(0, 8, true), (8, 64, true), (72, 1, false)], 73, 104, true, some (.agg #[.int .u32 0, .int .u32 0, .int .u32 0, .int .u32 0, .int .u32 0, .int .u32 0, .int .u32 0, .int .u32 0, .int .u8 0, .int .u8 0, .int .u8 0, .int .u8 0, .int .u8 0, .int .u8 0, .int .u8 0, .int .u8 0, .int .u8 0, .int .u8 0, .int .u8 0, .int .u8 0, .int .u8 0, .int .u8 0, .int .u8 0, .int .u8 0, .int .u8 0, .int .u8 0, .int .u8 0, .int .u8 0, .int .u8 0, .int .u8 0, .int .u8 0, .int .u8 0, .int .u8 0, .int .u8 0, .int .u8 0, .int .u8 0, .int .u8 0, .int .u8 0, .int .u8 0, .int .u8 0, .int .u8 0, .int .u8 0, .int .u8 0, .int .u8 0, .int .u8 0, .int .u8 0, .int .u8 0, .int .u8 0, .int .u8 0, .int .u8 0, .int .u8 0, .int .u8 0, .int .u8 0, .int .u8 0, .int .u8 0, .int .u8 0, .int .u8 0, .int .u8 0, .int .u8 0, .int .u8 0, .int .u8 0, .int .u8 0, .int .u8 0, .int .u8 0, .int .u8 0, .int .u8 0, .int .u8 0, .int .u8 0, .int .u8 0, .int .u8 0, .int .u8 0, .int .u8 0, .int .u64 0])⟩ := by kernel_rfl
theorem Tryd.tf83 : tf Tryd.prog 83 = some ⟨.struct [(0, 8, true), (8, 64, true), (72, 1, false)], 73, 104, true, some (.agg #[.int .u32 0, .int .u32 0, .int .u32 0, .int .u32 0, .int .u32 0, .int .u32 0, .int .u32 0, .int .u32 0, .int .u8 0, .int .u8 0, .int .u8 0, .int .u8 0, .int .u8 0, .int .u8 0, .int .u8 0, .int .u8 0, .int .u8 0, .int .u8 0, .int .u8 0, .int .u8 0, .int .u8 0, .int .u8 0, .int .u8 0, .int .u8 0, .int .u8 0, .int .u8 0, .int .u8 0, .int .u8 0, .int .u8 0, .int .u8 0, .int .u8 0, .int .u8 0, .int .u8 0, .int .u8 0, .int .u8 0, .int .u8 0, .int .u8 0, .int .u8 0, .int .u8 0, .int .u8 0, .int .u8 0, .int .u8 0, .int .u8 0, .int .u8 0, .int .u8 0, .int .u8 0, .int .u8 0, .int .u8 0, .int .u8 0, .int .u8 0, .int .u8 0, .int .u8 0, .int .u8 0, .int .u8 0, .int .u8 0, .int .u8 0, .int .u8 0, .int .u8 0, .int .u8 0, .int .u8 0, .int .u8 0, .int .u8 0, .int .u8 0, .int .u8 0, .int .u8 0, .int .u8 0, .int .u8 0, .int .u8 0, .int .u8 0, .int .u8 0, .int .u8 0, .int .u8 0, .int .u64 0])⟩ := by kernel_rfl
theorem Tryd.tf84 : tf Tryd.prog 84 = some ⟨.func, 1, 8, false, some (.nilFunc)⟩ := by kernel_rfl
theorem Tryd.tf85 : tf Tryd.prog 85 = some ⟨.func, 1, 8, false, some (.nilFunc)⟩ := by kernel_rfl
theorem Tryd.tf86 : tf Tryd.prog 86 = some ⟨.array 32 5 1 false, 32, 32, true, some (.agg #[.int .u8 0, .int .u8 0, .int .u8 0, .int .u8 0, .int .u8 0, .int .u8 0, .int .u8 0, .int .u8 0, .int .u8 0, .int .u8 0, .int .u8 0, .int .u8 0, .int .u8 0, .int .u8 0, .int .u8 0, .int .u8 0, .int .u8 0, .int .u8 0, .int .u8 0, .int .u8 0, .int .u8 0, .int .u8 0, .int .u8 0, .int .u8 0, .int .u8 0, .int .u8 0, .int .u8 0, .int .u8 0, .int .u8 0, .int .u8 0, .int .u8 0, .int .u8 0])⟩ := by kernel_rfl
theorem Tryd.teq86 : teq Tryd.prog 86 = some (List.replicate 32 (.int .u8)) := by kernel_rfl
theorem Tryd.tf87 : tf Tryd.prog 87 = some ⟨.func, 1, 8, false, some (.nilFunc)⟩ := by kernel_rfl
theorem Tryd.tf88 : tf Tryd.prog 88 = some ⟨.array 12 3 1 false, 12, 96, true, some (.agg #[.int .i64 0, .int .i64 0, .int .i64 0, .int .i64 0, .int .i64 0, .int .i64 0, .int .i64 0, .int .i64 0, .int .i64 0, .int .i64 0, .int .i64 0, .int .i64 0])⟩ := by kernel_rfl
theorem Tryd.teq88 : teq Tryd.prog 88 = some (List.replicate 12 (.int .i64)) := by kernel_rfl
theorem Tryd.tf89 : tf Tryd.prog 89 = some ⟨.func, 1, 8, false, some (.nilFunc)⟩ := by kernel_rfl
theorem Tryd.tf90 : tf Tryd.prog 90 = some ⟨.func, 1, 8, false, some (.nilFunc)⟩ := by kernel_rfl
theorem Tryd.tf91 : tf Tryd.prog 91 = some ⟨.func, 1, 8, false, some (.nilFunc)⟩ := by kernel_rfl
theorem Tryd.tf92 : tf Tryd.prog 92 = some ⟨.func, 1, 8, false, some (.nilFunc)⟩ := by kernel_rfl
theorem Tryd.tf93 : tf Tryd.prog 93 = some ⟨.func, 1, 8, false, some (.nilFunc)⟩ := by kernel_rfl
theorem Tryd.tf94 : tf Tryd.prog 94 = some ⟨.func, 1, 8, false, some (.nilFunc)⟩ := by kernel_rfl
theorem Tryd.tf95 : tf Tryd.prog 95 = some ⟨.int .u64, 1, 8, false, some (.int .u64 0)⟩ := by kernel_rfl
theorem Tryd.tf96 : tf Tryd.prog 96 = some ⟨.array 64 78 1 false, 64, 256, true, some (.agg #[.int .u32 0, .int .u32 0, .int .u32 0, .int .u32 0, .int .u32 0, .int .u32 0, .int .u32 0, .int .u32 0, .int .u32 0, .int .u32 0, .int .u32 0, .int .u32 0, .int .u32 0, .int .u32 0, .int .u32 0, .int .u32 0, .int .u32 0, .int .u32 0, .int .u32 0, .int .u32 0, .int .u32 0, .int .u32 0, .int .u32 0, .int .u32 0, .int .u32 0, .int .u32 0, .int .u32 0, .int .u32 0, .int .u32 0, .int .u32 0, .int .u32 0, .int .u32 0, .int .u32 0, .int .u32 0, .int .u32 0, .int .u32 0, .int .u32 0, .int .u32 0, .int .u32 0, .int .u32 0, .int .u32 0, .int .u32 0, .int .u32 0, .int .u32 0, .int .u32 0, .int .u32 0, .int .u32 0, .int .u32 0, .int .u32 0, .int .u32 0, .int .u32 0, .int .u32 0, .int .u32 0, .int .u32 0, .int .u32 0, .int .u32 0, .int .u32 0, .int .u32 0, .int .u32 0, .int .u32 0, .int .u32 0, .int .u32 0, .int .u32 0, .int .u32 0])⟩ := by kernel_rfl
theorem Tryd.teq96 : teq Tryd.prog 96 = some (List.replicate 64 (.int .u32)) := by kernel_rfl
theorem Tryd.tf97 : tf Tryd.prog 97 = some ⟨.func, 1, 8, false, some (.nilFunc)⟩ := by kernel_rfl
theorem Tryd.tf98 : tf Tryd.prog 98 = some ⟨.array 4 78 1 false, 4, 16, true, some (.agg #[.int .u32 0, .int .u32 0, .int .u32 0, .int .u32 0])⟩ := by kernel_rfl
theorem Tryd.teq98 : teq Tryd.prog 98 = some (List.replicate 4 (.int .u32)) := by kernel_rfl
theorem Tryd.tf99 : tf Tryd.prog 99 = some ⟨.slice 78 1 4, 1, 24, false, some (.slice none 0 0)⟩ := by kernel_rfl
theorem Tryd.tf100 : tf Tryd.prog 100 = some ⟨.func, 1, 8, false, some (.nilFunc)⟩ := by kernel_rfl
theorem Tryd.tf101 : tf Tryd.prog 101 = some ⟨.func, 1, 8, false, some (.nilFunc)⟩ := by kernel_rfl
theorem Tryd.tf102 : tf Tryd.prog 102 = some ⟨.func, 1, 8, false, some (.nilFunc)⟩ := by kernel_rfl
theorem Tryd.tf103 : tf Tryd.prog 103 = some ⟨.other, 1, 0, false, some (.tuple #[.int .u32 0, .int .u32 0])⟩ := by kernel_rfl
theorem Tryd.tf104 : tf Tryd.prog 104 = some ⟨.func, 1, 8, false, some (.nilFunc)⟩ := by kernel_rfl
theorem Tryd.tf105 : tf Tryd.prog 105 = some ⟨.func, 1, 8, false, some (.nilFunc)⟩ := by kernel_rfl
theorem Tryd.tf106 : tf Tryd.prog 106 = some ⟨.struct [(0, 1, false), (1, 1, false), (2, 1, false), (3, 1, false)], 4, 40, true, some (.agg #[.pointer none, .pointer none, .pointer none, .string ⟨#[]⟩])⟩ := by kernel_rfl
theorem Tryd.tf107 : tf Tryd.prog 107 = some ⟨.struct [(0, 1, false), (1, 1, false), (2, 1, false), (3, 1, false)], 4, 40, true, some (.agg #[.pointer none, .pointer none, .pointer none, .string ⟨#[]⟩])⟩ := by kernel_rfl
theorem Tryd.tf108 : tf Tryd.prog 108 = some ⟨.array 0 16 1 false, 0, 0, true, some (.agg #[])⟩ := by kernel_rfl
theorem Tryd.tf109 : tf Tryd.prog 109 = some ⟨.struct [(0, 0, true)], 0, 0, true, some (.agg #[])⟩ := by kernel_rfl
theorem Tryd.tf110 : tf Tryd.prog 110 = some ⟨.struct [(0, 0, true)], 0, 0, true, some (.agg #[])⟩ := by kernel_rfl
theorem Tryd.tf111 : tf Tryd.prog 111 = some ⟨.func, 1, 8, false, some (.nilFunc)⟩ := by kernel_rfl
theorem Tryd.tf112 : tf Tryd.prog 112 = some ⟨.int .u8, 1, 1, false, some (.int .u8 0)⟩ := by kernel_rfl
theorem Tryd.tf113 : tf Tryd.prog 113 = some ⟨.int .u8, 1, 1, false, some (.int .u8 0)⟩ := by kernel_rfl
theorem Tryd.tf114 : tf Tryd.prog 114 = some ⟨.func, 1, 8, false, some (.nilFunc)⟩ := by kernel_rfl
theorem Tryd.tf115 : tf Tryd.prog 115 = some ⟨.pointer 5, 1, 8, false, some (.pointer none)⟩ := by kernel_rfl
theorem Tryd.tf116 : tf Tryd.prog 116 = some ⟨.int .i32, 1, 4, false, some (.int .i32 0)⟩ := by kernel_rfl
theorem Tryd.tf117 : tf Tryd.prog 117 = some ⟨.int .i32, 1, 4, false, some (.int .i32 0)⟩ := by kernel_rfl
theorem Tryd.tf118 : tf Tryd.prog 118 = some ⟨.struct [(0, 1, false), (1, 1, false), (2, 1, false), (3, 1, false), (4, 1, false), (5, 1, false), (6, 1, false), (7, 1, false), (8, 1, false), (9, 1, false), (10, 1, false)], 11, 48, true, some (.agg #[.int .u64 0, .int .u64 0, .int .u32 0, .int .u8 0, .int .u8 0, .int .u8 0, .int .u8 0, .nilFunc, .pointer none, .int .i32 0, .int .i32 0])⟩ := by kernel_rfl
theorem Tryd.tf119 : tf Tryd.prog 119 = some ⟨.struct [(0, 1, false), (1, 1, false), (2, 1, false), (3, 1, false), (4, 1, false), (5, 1, false), (6, 1, false), (7, 1, false), (8, 1, false), (9, 1, false), (10, 1, false)], 11, 48, true, some (.agg #[.int .u64 0, .int .u64 0, .int .u32 0, .int .u8 0, .int .u8 0, .int .u8 0, .int .u8 0, .nilFunc, .pointer none, .int .i32 0, .int .i32 0])⟩ := by kernel_rfl
theorem Tryd.tf120 : tf Tryd.prog 120 = some ⟨.other, 1, 8, false, some (.pointer none)⟩ := by kernel_rfl
theorem Tryd.call3 : callable Tryd.prog 3 = true := by kernel_rfl
theorem Tryd.call4 : callable Tryd.prog 4 = true := by kernel_rfl
theorem Tryd.call5 : callable Tryd.prog 5 = true := by kernel_rfl
theorem Tryd.call6 : callable Tryd.prog 6 = true := by kernel_rfl
theorem Tryd.call7 : callable Tryd.prog 7 = true := by kernel_rfl
theorem Tryd.call8 : callable Tryd.prog 8 = true := by kernel_rfl
theorem Tryd.call9 : callable Tryd.prog 9 = true := by kernel_rfl
theorem Tryd.call10 : callable Tryd.prog 10 = true := by kernel_rfl
theorem Tryd.call11 : callable Tryd.prog 11 = true := by kernel_rfl
theorem Tryd.call12 : callable Tryd.prog 12 = true := by kernel_rfl
theorem Tryd.call13 : callable Tryd.prog 13 = true := by kernel_rfl
theorem Tryd.call14 : callable Tryd.prog 14 = true := by kernel_rfl
theorem Tryd.call15 : callable Tryd.prog 15 = true := by kernel_rfl
theorem Tryd.call16 : callable Tryd.prog 16 = true := by kernel_rfl
theorem Tryd.call17 : callable Tryd.prog 17 = true := by kernel_rfl
theorem Tryd.call18 : callable Tryd.prog 18 = true := by kernel_rfl
theorem Tryd.call19 : callable Tryd.prog 19 = true := by kernel_rfl
theorem Tryd.call20 : callable Tryd.prog 20 = true := by kernel_rfl
theorem Tryd.call21 : callable Tryd.prog 21 = true := by kernel_rfl
theorem Tryd.call22 : callable Tryd.prog 22 = true := by kernel_rfl
theorem Tryd.call23 : callable Tryd.prog 23 = true := by kernel_rfl
theorem Tryd.call24 : callable Tryd.prog 24 = true := by kernel_rfl
theorem Tryd.call25 : callable Tryd.prog 25 = true := by kernel_rfl
theorem Tryd.call26 : callable Tryd.prog 26 = true := by kernel_rfl
theorem Tryd.call27 : callable Tryd.prog 27 = true := by kernel_rfl
theorem Tryd.call28 : callable Tryd.prog 28 = true := by kernel_rfl
theorem Tryd.call29 : callable Tryd.prog 29 = true := by kernel_rfl
theorem Tryd.call30 : callable Tryd.prog 30 = true := by kernel_rfl
theorem Tryd.call31 : callable Tryd.prog 31 = true := by kernel_rfl
theorem Tryd.call32 : callable Tryd.prog 32 = true := by kernel_rfl
theorem Tryd.call33 : callable Tryd.prog 33 = true := by kernel_rfl
theorem Tryd.call34 : callable Tryd.prog 34 = true := by kernel_rfl
theorem Tryd.call35 : callable Tryd.prog 35 = true := by kernel_rfl
theorem Tryd.call36 : callable Tryd.prog 36 = true := by kernel_rfl
theorem Tryd.call37 : callable Tryd.prog 37 = true := by kernel_rfl
theorem Tryd.call38 : callable Tryd.prog 38 = true := by kernel_rfl
theorem Tryd.call39 : callable Tryd.prog 39 = true := by kernel_rfl
theorem Tryd.call40 : callable Tryd.prog 40 = true := by kernel_rfl
theorem Tryd.call41 : callable Tryd.prog 41 = true := by kernel_rfl
theorem Tryd.call42 : callable Tryd.prog 42 = true := by kernel_rfl
theorem Tryd.call43 : callable Tryd.prog 43 = true := by kernel_rfl
theorem Tryd.call44 : callable Tryd.prog 44 = true := by kernel_rfl
theorem Tryd.call45 : callable Tryd.prog 45 = true := by kernel_rfl
theorem Tryd.call46 : callable Tryd.prog 46 = true := by kernel_rfl
theorem Tryd.call47 : callable Tryd.prog 47 = true := by kernel_rfl
theorem Tryd.call48 : callable Tryd.prog 48 = true := by kernel_rfl
theorem Tryd.call49 : callable Tryd.prog 49 = true := by kernel_rfl
theorem Tryd.call50 : callable Tryd.prog 50 = true := by kernel_rfl
theorem Tryd.call51 : callable Tryd.prog 51 = true := by kernel_rfl
theorem Tryd.call52 : callable Tryd.prog 52 = true := by kernel_rfl
theorem Tryd.call53 : callable Tryd.prog 53 = true := by kernel_rfl
theorem Tryd.call54 : callable Tryd.prog 54 = true := by kernel_rfl
theorem Tryd.call55 : callable Tryd.prog 55 = true := by kernel_rfl
theorem Tryd.call56 : callable Tryd.prog 56 = true := by kernel_rfl
theorem Tryd.call57 : callable Tryd.prog 57 = true := by kernel_rfl
theorem Tryd.call58 : callable Tryd.prog 58 = true := by kernel_rfl
theorem Tryd.call59 : callable Tryd.prog 59 = true := by kernel_rfl
theorem Tryd.call60 : callable Tryd.prog 60 = true := by kernel_rfl
theorem Tryd.call61 : callable Tryd.prog 61 = true := by kernel_rfl
theorem Tryd.call62 : callable Tryd.prog 62 = true := by kernel_rfl
theorem Tryd.call63 : callable Tryd.prog 63 = true := by kernel_rfl
theorem Tryd.call64 : callable Tryd.prog 64 = true := by kernel_rfl
theorem Tryd.call65 : callable Tryd.prog 65 = true := by kernel_rfl
theorem Tryd.call66 : callable Tryd.prog 66 = true := by kernel_rfl
theorem Tryd.call67 : callable Tryd.prog 67 = true := by kernel_rfl
theorem Tryd.call68 : callable Tryd.prog 68 = true := by kernel_rfl
theorem Tryd.call69 : callable Tryd.prog 69 = true := by kernel_rfl
theorem Tryd.call70 : callable Tryd.prog 70 = true := by kernel_rfl
theorem Tryd.call74 : callable Tryd.prog 74 = true := by kernel_rfl
end Go.PM
