/- What the type table of this translation says, row by row; which functions have bodies. Conditions: none. -/
import Derived.Test.YtaiflmbhciophaaProg
import Derived.Test.YtaiflmbhciophaaPmp
import Derived.KernelRfl
namespace Go.PM
open Go.Proofs
theorem Try.tf0 : tf Try.prog 0 = some ⟨.other, 1, 0, false, some (.tuple #[])⟩ := by kernel_rfl
theorem Try.tf1 : tf Try.prog 1 = some ⟨.func, 1, 8, false, some (.nilFunc)⟩ := by kernel_rfl
theorem Try.tf2 : tf Try.prog 2 = some ⟨.int .i64, 1, 8, false, some (.int .i64 0)⟩ := by kernel_rfl
theorem Try.tf3 : tf Try.prog 3 = some ⟨.int .i64, 1, 8, false, some (.int .i64 0)⟩ := by kernel_rfl
theorem Try.tf4 : tf Try.prog 4 = some ⟨.bool, 1, 1, false, some (.bool false)⟩ := by kernel_rfl
theorem Try.tf5 : tf Try.prog 5 = some ⟨.int .u8, 1, 1, false, some (.int .u8 0)⟩ := by kernel_rfl
theorem Try.tf6 : tf Try.prog 6 = some ⟨.int .u8, 1, 1, false, some (.int .u8 0)⟩ := by kernel_rfl
theorem Try.tf7 : tf Try.prog 7 = some ⟨.struct [(0, 1, false), (1, 1, false), (2, 1, false), (3, 1, false)], 4, 24, true, some (.agg #[.int .i64 0, .int .i64 0, .bool false, .int .u8 0])⟩ := by kernel_rfl
theorem Try.tf8 : tf Try.prog 8 = some ⟨.struct [(0, 1, false), (1, 1, false), (2, 1, false), (3, 1, false)], 4, 24, true, some (.agg #[.int .i64 0, .int .i64 0, .bool false, .int .u8 0])⟩ := by kernel_rfl
theorem Try.tf9 : tf Try.prog 9 = some ⟨.string, 1, 16, false, some (.string ⟨#[]⟩)⟩ := by kernel_rfl
theorem Try.tf10 : tf Try.prog 10 = some ⟨.string, 1, 16, false, some (.string ⟨#[]⟩)⟩ := by kernel_rfl
theorem Try.tf11 : tf Try.prog 11 = some ⟨.string, 1, 16, false, some (.string ⟨#[]⟩)⟩ := by kernel_rfl
theorem Try.tf12 : tf Try.prog 12 = some ⟨.int .u64, 1, 8, false, some (.int .u64 0)⟩ := by kernel_rfl
theorem Try.tf13 : tf Try.prog 13 = some ⟨.struct [(0, 1, false), (1, 1, false)], 2, 24, true, some (.agg #[.string ⟨#[]⟩, .int .u64 0])⟩ := by kernel_rfl
theorem Try.tf14 : tf Try.prog 14 = some ⟨.struct [(0, 1, false), (1, 1, false)], 2, 24, true, some (.agg #[.string ⟨#[]⟩, .int .u64 0])⟩ := by kernel_rfl
theorem Try.tf15 : tf Try.prog 15 = some ⟨.pointer 65, 1, 8, false, some (.pointer none)⟩ := by kernel_rfl
theorem Try.tf16 : tf Try.prog 16 = some ⟨.pointer 68, 1, 8, false, some (.pointer none)⟩ := by kernel_rfl
theorem Try.tf17 : tf Try.prog 17 = some ⟨.pointer 78, 1, 8, false, some (.pointer none)⟩ := by kernel_rfl
theorem Try.tf18 : tf Try.prog 18 = some ⟨.struct [(0, 1, false)], 1, 8, true, some (.agg #[.pointer none])⟩ := by kernel_rfl
theorem Try.tf19 : tf Try.prog 19 = some ⟨.struct [(0, 1, false)], 1, 8, true, some (.agg #[.pointer none])⟩ := by kernel_rfl
theorem Try.tf20 : tf Try.prog 20 = some ⟨.other, 1, 16, false, some (.nilIface)⟩ := by kernel_rfl
theorem Try.tf21 : tf Try.prog 21 = some ⟨.int .i32, 1, 4, false, some (.int .i32 0)⟩ := by kernel_rfl
theorem Try.tf22 : tf Try.prog 22 = some ⟨.slice 3 1 8, 1, 24, false, some (.slice none 0 0)⟩ := by kernel_rfl
theorem Try.tf23 : tf Try.prog 23 = some ⟨.slice 9 1 16, 1, 24, false, some (.slice none 0 0)⟩ := by kernel_rfl
theorem Try.tf24 : tf Try.prog 24 = some ⟨.slice 57 16 16, 1, 24, false, some (.slice none 0 0)⟩ := by kernel_rfl
theorem Try.tf25 : tf Try.prog 25 = some ⟨.func, 1, 8, false, some (.nilFunc)⟩ := by kernel_rfl
theorem Try.tf26 : tf Try.prog 26 = some ⟨.func, 1, 8, false, some (.nilFunc)⟩ := by kernel_rfl
theorem Try.tf27 : tf Try.prog 27 = some ⟨.func, 1, 8, false, some (.nilFunc)⟩ := by kernel_rfl
theorem Try.tf28 : tf Try.prog 28 = some ⟨.slice 5 1 1, 1, 24, false, some (.slice none 0 0)⟩ := by kernel_rfl
theorem Try.tf29 : tf Try.prog 29 = some ⟨.func, 1, 8, false, some (.nilFunc)⟩ := by kernel_rfl
theorem Try.tf30 : tf Try.prog 30 = some ⟨.func, 1, 8, false, some (.nilFunc)⟩ := by kernel_rfl
theorem Try.tf31 : tf Try.prog 31 = some ⟨.func, 1, 8, false, some (.nilFunc)⟩ := by kernel_rfl
theorem Try.tf32 : tf Try.prog 32 = some ⟨.func, 1, 8, false, some (.nilFunc)⟩ := by kernel_rfl
theorem Try.tf33 : tf Try.prog 33 = some ⟨.func, 1, 8, false, some (.nilFunc)⟩ := by kernel_rfl
theorem Try.tf34 : tf Try.prog 34 = some ⟨.func, 1, 8, false, some (.nilFunc)⟩ := by kernel_rfl
theorem Try.tf35 : tf Try.prog 35 = some ⟨.int .i64, 1, 8, false, some (.int .i64 0)⟩ := by kernel_rfl
theorem Try.tf36 : tf Try.prog 36 = some ⟨.other, 1, 0, false, some (.tuple #[.int .i64 0, .int .i64 0, .int .i64 0])⟩ := by kernel_rfl
theorem Try.tf37 : tf Try.prog 37 = some ⟨.func, 1, 8, false, some (.nilFunc)⟩ := by kernel_rfl
theorem Try.tf38 : tf Try.prog 38 = some ⟨.other, 1, 0, false, some (.tuple #[.string ⟨#[]⟩, .int .i64 0, .int .i64 0])⟩ := by kernel_rfl
theorem Try.tf39 : tf Try.prog 39 = some ⟨.func, 1, 8, false, some (.nilFunc)⟩ := by kernel_rfl
theorem Try.tf40 : tf Try.prog 40 = some ⟨.other, 1, 0, false, some (.tuple #[.slice none 0 0, .int .i64 0, .int .i64 0])⟩ := by kernel_rfl
theorem Try.tf41 : tf Try.prog 41 = some ⟨.func, 1, 8, false, some (.nilFunc)⟩ := by kernel_rfl
theorem Try.tf42 : tf Try.prog 42 = some ⟨.func, 1, 8, false, some (.nilFunc)⟩ := by kernel_rfl
theorem Try.tf43 : tf Try.prog 43 = some ⟨.other, 1, 0, false, some (.tuple #[.slice none 0 0, .int .i64 0, .int .i64 0])⟩ := by kernel_rfl
theorem Try.tf44 : tf Try.prog 44 = some ⟨.func, 1, 8, false, some (.nilFunc)⟩ := by kernel_rfl
theorem Try.tf45 : tf Try.prog 45 = some ⟨.func, 1, 8, false, some (.nilFunc)⟩ := by kernel_rfl
theorem Try.tf46 : tf Try.prog 46 = some ⟨.other, 1, 0, false, some (.tuple #[.slice none 0 0, .int .i64 0, .int .i64 0])⟩ := by kernel_rfl
theorem Try.tf47 : tf Try.prog 47 = some ⟨.func, 1, 8, false, some (.nilFunc)⟩ := by kernel_rfl
theorem Try.tf48 : tf Try.prog 48 = some ⟨.func, 1, 8, false, some (.nilFunc)⟩ := by kernel_rfl
theorem Try.tf49 : tf Try.prog 49 = some ⟨.func, 1, 8, false, some (.nilFunc)⟩ := by kernel_rfl
theorem Try.tf50 : tf Try.prog 50 = some ⟨.func, 1, 8, false, some (.nilFunc)⟩ := by kernel_rfl
theorem Try.tf51 : tf Try.prog 51 = some ⟨.func, 1, 8, false, some (.nilFunc)⟩ := by kernel_rfl
theorem Try.tf52 : tf Try.prog 52 = some ⟨.func, 1, 8, false, some (.nilFunc)⟩ := by kernel_rfl
theorem Try.tf53 : tf Try.prog 53 = some ⟨.func, 1, 8, false, some (.nilFunc)⟩ := by kernel_rfl
theorem Try.tf54 : tf Try.prog 54 = some ⟨.slice 28 1 24, 1, 24, false, some (.slice none 0 0)⟩ := by kernel_rfl
theorem Try.tf55 : tf Try.prog 55 = some ⟨.func, 1, 8, false, some (.nilFunc)⟩ := by kernel_rfl
theorem Try.tf56 : tf Try.prog 56 = some ⟨.array 16 5 1 false, 16, 16, true, some (.agg #[.int .u8 0, .int .u8 0, .int .u8 0, .int .u8 0, .int .u8 0, .int .u8 0, .int .u8 0, .int .u8 0, .int .u8 0, .int .u8 0, .int .u8 0, .int .u8 0, .int .u8 0, .int .u8 0, .int .u8 0, .int .u8 0])⟩ := by kernel_rfl
theorem Try.teq56 : teq Try.prog 56 = some (List.replicate 16 (.int .u8)) := by kernel_rfl
theorem Try.tf57 : tf Try.prog 57 = some ⟨.array 16 5 1 false, 16, 16, true, some (.agg #[.int .u8 0, .int .u8 0, .int .u8 0, .int .u8 0, .int .u8 0, .int .u8 0, .int .u8 0, .int .u8 0, .int .u8 0, .int .u8 0, .int .u8 0, .int .u8 0, .int .u8 0, .int .u8 0, .int .u8 0, .int .u8 0])⟩ := by kernel_rfl
theorem Try.teq57 : teq Try.prog 57 = some (List.replicate 16 (.int .u8)) := by kernel_rfl
theorem Try.tf58 : tf Try.prog 58 = some ⟨.int .u64, 1, 8, false, some (.int .u64 0)⟩ := by kernel_rfl
theorem Try.tf59 : tf Try.prog 59 = some ⟨.int .u64, 1, 8, false, some (.int .u64 0)⟩ := by kernel_rfl
theorem Try.tf60 : tf Try.prog 60 = some ⟨.func, 1, 8, false, some (.nilFunc)⟩ := by kernel_rfl
theorem Try.tf61 : tf Try.prog 61 = some ⟨.func, 1, 8, false, some (.nilFunc)⟩ := by kernel_rfl
theorem Try.tf62 : tf Try.prog 62 = some ⟨.func, 1, 8, false, some (.nilFunc)⟩ := by kernel_rfl
theorem Try.tf63 : tf Try.prog 63 = some ⟨.func, 1, 8, false, some (.nilFunc)⟩ := by kernel_rfl
theorem Try.tf64 : tf Try.prog 64 = some ⟨.struct [(0, 1, false), (1, 1, false), (2, 1, false), (3, 1, false)], 4, 40, true, some (.agg #[.pointer none, .pointer none, .pointer none, .string ⟨#[]⟩])⟩ := by kernel_rfl
theorem Try.tf65 : tf Try.prog 65 = some ⟨.struct [(0, 1, false), (1, 1, false), (2, 1, false), (3, 1, false)], 4, 40, true, some (.agg #[.pointer none, .pointer none, .pointer none, .string ⟨#[]⟩])⟩ := by kernel_rfl
theorem Try.tf66 : tf Try.prog 66 = some ⟨.array 0 16 1 false, 0, 0, true, some (.agg #[])⟩ := by kernel_rfl
theorem Try.tf67 : tf Try.prog 67 = some ⟨.struct [(0, 0, true)], 0, 0, true, some (.agg #[])⟩ := by kernel_rfl
theorem Try.tf68 : tf Try.prog 68 = some ⟨.struct [(0, 0, true)], 0, 0, true, some (.agg #[])⟩ := by kernel_rfl
theorem Try.tf69 : tf Try.prog 69 = some ⟨.func, 1, 8, false, some (.nilFunc)⟩ := by kernel_rfl
theorem Try.tf70 : tf Try.prog 70 = some ⟨.int .u32, 1, 4, false, some (.int .u32 0)⟩ := by kernel_rfl
theorem Try.tf71 : tf Try.prog 71 = some ⟨.int .u8, 1, 1, false, some (.int .u8 0)⟩ := by kernel_rfl
theorem Try.tf72 : tf Try.prog 72 = some ⟨.int .u8, 1, 1, false, some (.int .u8 0)⟩ := by kernel_rfl
theorem Try.tf73 : tf Try.prog 73 = some ⟨.func, 1, 8, false, some (.nilFunc)⟩ := by kernel_rfl
theorem Try.tf74 : tf Try.prog 74 = some ⟨.pointer 5, 1, 8, false, some (.pointer none)⟩ := by kernel_rfl
theorem Try.tf75 : tf Try.prog 75 = some ⟨.int .i32, 1, 4, false, some (.int .i32 0)⟩ := by kernel_rfl
theorem Try.tf76 : tf Try.prog 76 = some ⟨.int .i32, 1, 4, false, some (.int .i32 0)⟩ := by kernel_rfl
theorem Try.tf77 : tf Try.prog 77 = some ⟨.struct [(0, 1, false), (1, 1, false), (2, 1, false), (3, 1, false), (4, 1, false), (5, 1, false), (6, 1, false), (7, 1, false), (8, 1, false), (9, 1, false), (10, 1, false)], 11, 48, true, some (.agg #[.int .u64 0, .int .u64 0, .int .u32 0, .int .u8 0, .int .u8 0, .int .u8 0, .int .u8 0, .nilFunc, .pointer none, .int .i32 0, .int .i32 0])⟩ := by kernel_rfl
theorem Try.tf78 : tf Try.prog 78 = some ⟨.struct [(0, 1, false), (1, 1, false), (2, 1, false), (3, 1, false), (4, 1, false), (5, 1, false), (6, 1, false), (7, 1, false), (8, 1, false), (9, 1, false), (10, 1, false)], 11, 48, true, some (.agg #[.int .u64 0, .int .u64 0, .int .u32 0, .int .u8 0, .int .u8 0, .int .u8 0, .int .u8 0, .nilFunc, .pointer none, .int .i32 0, .int .i32 0])⟩ := by kernel_rfl
theorem Try.tf79 : tf Try.prog 79 = some ⟨.other, 1, 8, false, some (.pointer none)⟩ := by kernel_rfl
theorem Try.call3 : callable Try.prog 3 = true := by kernel_rfl
theorem Try.call4 : callable Try.prog 4 = true := by kernel_rfl
theorem Try.call5 : callable Try.prog 5 = true := by kernel_rfl
theorem Try.call6 : callable Try.prog 6 = true := by kernel_rfl
theorem Try.call7 : callable Try.prog 7 = true := by kernel_rfl
theorem Try.call8 : callable Try.prog 8 = true := by kernel_rfl
theorem Try.call9 : callable Try.prog 9 = true := by kernel_rfl
theorem Try.call10 : callable Try.prog 10 = true := by kernel_rfl
theorem Try.call11 : callable Try.prog 11 = true := by kernel_rfl
theorem Try.call12 : callable Try.prog 12 = true := by kernel_rfl
theorem Try.call13 : callable Try.prog 13 = true := by kernel_rfl
theorem Try.call14 : callable Try.prog 14 = true := by kernel_rfl
theorem Try.call15 : callable Try.prog 15 = true := by kernel_rfl
theorem Try.call16 : callable Try.prog 16 = true := by kernel_rfl
theorem Try.call17 : callable Try.prog 17 = true := by kernel_rfl
theorem Try.call18 : callable Try.prog 18 = true := by kernel_rfl
theorem Try.call19 : callable Try.prog 19 = true := by kernel_rfl
theorem Try.call20 : callable Try.prog 20 = true := by kernel_rfl
theorem Try.call21 : callable Try.prog 21 = true := by kernel_rfl
theorem Try.call22 : callable Try.prog 22 = true := by kernel_rfl
theorem Try.call23 : callable Try.prog 23 = true := by kernel_rfl
theorem Try.call24 : callable Try.prog 24 = true := by kernel_rfl
theorem Try.call25 : callable Try.prog 25 = true := by kernel_rfl
theorem Try.call26 : callable Try.prog 26 = true := by kernel_rfl
theorem Try.call27 : callable Try.prog 27 = true := by kernel_rfl
theorem Try.call28 : callable Try.prog 28 = true := by kernel_rfl
theorem Try.call29 : callable Try.prog 29 = true := by kernel_rfl
theorem Try.call30 : callable Try.prog 30 = true := by kernel_rfl
theorem Try.call31 : callable Try.prog 31 = true := by kernel_rfl
theorem Try.call32 : callable Try.prog 32 = true := by kernel_rfl
theorem Try.call33 : callable Try.prog 33 = true := by kernel_rfl
theorem Try.call34 : callable Try.prog 34 = true := by kernel_rfl
theorem Try.call35 : callable Try.prog 35 = true := by kernel_rfl
theorem Try.call36 : callable Try.prog 36 = true := by kernel_rfl
theorem Try.call37 : callable Try.prog 37 = true := by kernel_rfl
theorem Try.call38 : callable Try.prog 38 = true := by kernel_rfl
theorem Try.call39 : callable Try.prog 39 = true := by kernel_rfl
theorem Try.call40 : callable Try.prog 40 = true := by kernel_rfl
theorem Try.call41 : callable Try.prog 41 = true := by kernel_rfl
end Go.PM
