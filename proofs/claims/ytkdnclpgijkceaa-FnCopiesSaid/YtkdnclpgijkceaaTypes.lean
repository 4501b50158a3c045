/- What the walks of this seat ask of the program: figures of types, callable functions. Printed by a program of our own. -/
import Derived.Test.YtkdnclpgijkceaaMem
import Derived.Test.YtkdnclpgijkceaaRows
namespace Go.Proofs.Ytkdnclpgijkceaa
open Go Go.RowKit
theorem follows_mixed : Try.prog.follows .mixedOrders = true := by kernel_rfl
theorem ti2 : TI Try.prog 2 1 8 (.int .i64 (0 : Int)) := TI.of (by kernel_rfl)
theorem ti3 : TI Try.prog 3 1 8 (.int .i64 (0 : Int)) := TI.of (by kernel_rfl)
theorem ti4 : TI Try.prog 4 1 1 (.bool (false)) := TI.of (by kernel_rfl)
theorem ti5 : TI Try.prog 5 1 1 (.int .u8 (0 : Int)) := TI.of (by kernel_rfl)
theorem ti9 : TI Try.prog 9 1 16 (St (([] : Str))) := TI.of (by kernel_rfl)
theorem ti12 : TI Try.prog 12 1 8 (.int .u64 (0 : Int)) := TI.of (by kernel_rfl)
theorem ti21 : TI Try.prog 21 1 4 (.int .i32 (0 : Int)) := TI.of (by kernel_rfl)
theorem ti22 : TI Try.prog 22 1 24 (.slice none 0 0) := TI.of (by kernel_rfl)
theorem ti25 : TI Try.prog 25 1 24 (.slice none 0 0) := TI.of (by kernel_rfl)
theorem ti32 : TI Try.prog 32 2 24 (.agg #[.int .i64 (0 : Int), St (([] : Str))]) := TI.of (by kernel_rfl)
theorem bp32 (w : World) : (bplaces (#[{ name := "Number", type := 2, offset := 0, embedded := false, tag := "", pkgPath := "", byteOffset := 0 }, { name := "Text", type := 9, offset := 1, embedded := false, tag := "", pkgPath := "", byteOffset := 8 }] : Array Field)).run Try.prog w = .ok #[(0, 1), (1, 1)] w := by kernel_rfl
theorem ti36 : TI Try.prog 36 2 24 (.agg #[.int .i64 (0 : Int), St (([] : Str))]) := TI.of (by kernel_rfl)
theorem bp36 (w : World) : (bplaces (#[{ name := "Number", type := 2, offset := 0, embedded := false, tag := "", pkgPath := "", byteOffset := 0 }, { name := "Text", type := 9, offset := 1, embedded := false, tag := "", pkgPath := "", byteOffset := 8 }] : Array Field)).run Try.prog w = .ok #[(0, 1), (1, 1)] w := by kernel_rfl
theorem ti44 : TI Try.prog 44 1 24 (.slice none 0 0) := TI.of (by kernel_rfl)
theorem ti51 : TI Try.prog 51 1 24 (.slice none 0 0) := TI.of (by kernel_rfl)
theorem ti57 : TI Try.prog 57 1 8 (.int .u64 (0 : Int)) := TI.of (by kernel_rfl)
theorem ti76 : TI Try.prog 76 3 40 (.agg #[.slice none 0 0, .int .i64 (0 : Int), .int .u64 (0 : Int)]) := TI.of (by kernel_rfl)
theorem bp76 (w : World) : (bplaces (#[{ name := "b", type := 51, offset := 0, embedded := false, tag := "", pkgPath := "loop.example/g01050/laws", byteOffset := 0 }, { name := "i", type := 3, offset := 1, embedded := false, tag := "", pkgPath := "loop.example/g01050/laws", byteOffset := 24 }, { name := "h", type := 57, offset := 2, embedded := false, tag := "", pkgPath := "loop.example/g01050/laws", byteOffset := 32 }] : Array Field)).run Try.prog w = .ok #[(0, 1), (1, 1), (2, 1)] w := by kernel_rfl
theorem ti77 : TI Try.prog 77 1 8 (.int .u64 (0 : Int)) := TI.of (by kernel_rfl)
theorem ti82 : TI Try.prog 82 1 24 (.slice none 0 0) := TI.of (by kernel_rfl)
theorem ti88 : TI Try.prog 88 3 40 (.agg #[.slice none 0 0, .int .i64 (0 : Int), .int .i64 (0 : Int)]) := TI.of (by kernel_rfl)
theorem bp88 (w : World) : (bplaces (#[{ name := "code", type := 51, offset := 0, embedded := false, tag := "", pkgPath := "loop.example/g01050/spec", byteOffset := 0 }, { name := "at", type := 3, offset := 1, embedded := false, tag := "", pkgPath := "loop.example/g01050/spec", byteOffset := 24 }, { name := "seed", type := 2, offset := 2, embedded := false, tag := "", pkgPath := "loop.example/g01050/spec", byteOffset := 32 }] : Array Field)).run Try.prog w = .ok #[(0, 1), (1, 1), (2, 1)] w := by kernel_rfl
theorem ti99 : TI Try.prog 99 1 4 (.int .u32 (0 : Int)) := TI.of (by kernel_rfl)
theorem cb3 : Callable Try.prog 3 := ⟨_, Try.func3, by kernel_rfl, rfl⟩
theorem cb4 : Callable Try.prog 4 := ⟨_, Try.func4, by kernel_rfl, rfl⟩
theorem cb5 : Callable Try.prog 5 := ⟨_, Try.func5, by kernel_rfl, rfl⟩
theorem cb6 : Callable Try.prog 6 := ⟨_, Try.func6, by kernel_rfl, rfl⟩
theorem cb7 : Callable Try.prog 7 := ⟨_, Try.func7, by kernel_rfl, rfl⟩
theorem cb8 : Callable Try.prog 8 := ⟨_, Try.func8, by kernel_rfl, rfl⟩
theorem cb9 : Callable Try.prog 9 := ⟨_, Try.func9, by kernel_rfl, rfl⟩
theorem cb10 : Callable Try.prog 10 := ⟨_, Try.func10, by kernel_rfl, rfl⟩
theorem cb11 : Callable Try.prog 11 := ⟨_, Try.func11, by kernel_rfl, rfl⟩
theorem cb12 : Callable Try.prog 12 := ⟨_, Try.func12, by kernel_rfl, rfl⟩
theorem cb13 : Callable Try.prog 13 := ⟨_, Try.func13, by kernel_rfl, rfl⟩
theorem cb14 : Callable Try.prog 14 := ⟨_, Try.func14, by kernel_rfl, rfl⟩
theorem cb15 : Callable Try.prog 15 := ⟨_, Try.func15, by kernel_rfl, rfl⟩
theorem cb16 : Callable Try.prog 16 := ⟨_, Try.func16, by kernel_rfl, rfl⟩
theorem cb17 : Callable Try.prog 17 := ⟨_, Try.func17, by kernel_rfl, rfl⟩
theorem cb18 : Callable Try.prog 18 := ⟨_, Try.func18, by kernel_rfl, rfl⟩
theorem cb19 : Callable Try.prog 19 := ⟨_, Try.func19, by kernel_rfl, rfl⟩
theorem cb20 : Callable Try.prog 20 := ⟨_, Try.func20, by kernel_rfl, rfl⟩
theorem cb21 : Callable Try.prog 21 := ⟨_, Try.func21, by kernel_rfl, rfl⟩
theorem cb22 : Callable Try.prog 22 := ⟨_, Try.func22, by kernel_rfl, rfl⟩
theorem cb23 : Callable Try.prog 23 := ⟨_, Try.func23, by kernel_rfl, rfl⟩
theorem cb24 : Callable Try.prog 24 := ⟨_, Try.func24, by kernel_rfl, rfl⟩
theorem cb25 : Callable Try.prog 25 := ⟨_, Try.func25, by kernel_rfl, rfl⟩
theorem cb26 : Callable Try.prog 26 := ⟨_, Try.func26, by kernel_rfl, rfl⟩
theorem cb27 : Callable Try.prog 27 := ⟨_, Try.func27, by kernel_rfl, rfl⟩
theorem cb28 : Callable Try.prog 28 := ⟨_, Try.func28, by kernel_rfl, rfl⟩
theorem cb29 : Callable Try.prog 29 := ⟨_, Try.func29, by kernel_rfl, rfl⟩
theorem cb30 : Callable Try.prog 30 := ⟨_, Try.func30, by kernel_rfl, rfl⟩
theorem cb31 : Callable Try.prog 31 := ⟨_, Try.func31, by kernel_rfl, rfl⟩
theorem cb32 : Callable Try.prog 32 := ⟨_, Try.func32, by kernel_rfl, rfl⟩
theorem cb33 : Callable Try.prog 33 := ⟨_, Try.func33, by kernel_rfl, rfl⟩
theorem cb34 : Callable Try.prog 34 := ⟨_, Try.func34, by kernel_rfl, rfl⟩
theorem cb35 : Callable Try.prog 35 := ⟨_, Try.func35, by kernel_rfl, rfl⟩
theorem cb36 : Callable Try.prog 36 := ⟨_, Try.func36, by kernel_rfl, rfl⟩
theorem cb37 : Callable Try.prog 37 := ⟨_, Try.func37, by kernel_rfl, rfl⟩
theorem cb38 : Callable Try.prog 38 := ⟨_, Try.func38, by kernel_rfl, rfl⟩
theorem cb39 : Callable Try.prog 39 := ⟨_, Try.func39, by kernel_rfl, rfl⟩
theorem cb40 : Callable Try.prog 40 := ⟨_, Try.func40, by kernel_rfl, rfl⟩
theorem cb41 : Callable Try.prog 41 := ⟨_, Try.func41, by kernel_rfl, rfl⟩
theorem cb42 : Callable Try.prog 42 := ⟨_, Try.func42, by kernel_rfl, rfl⟩
theorem cb43 : Callable Try.prog 43 := ⟨_, Try.func43, by kernel_rfl, rfl⟩
theorem cb44 : Callable Try.prog 44 := ⟨_, Try.func44, by kernel_rfl, rfl⟩
theorem cb45 : Callable Try.prog 45 := ⟨_, Try.func45, by kernel_rfl, rfl⟩
theorem cb46 : Callable Try.prog 46 := ⟨_, Try.func46, by kernel_rfl, rfl⟩
theorem cb47 : Callable Try.prog 47 := ⟨_, Try.func47, by kernel_rfl, rfl⟩
theorem cb48 : Callable Try.prog 48 := ⟨_, Try.func48, by kernel_rfl, rfl⟩
theorem cb49 : Callable Try.prog 49 := ⟨_, Try.func49, by kernel_rfl, rfl⟩
theorem cb50 : Callable Try.prog 50 := ⟨_, Try.func50, by kernel_rfl, rfl⟩
theorem cb51 : Callable Try.prog 51 := ⟨_, Try.func51, by kernel_rfl, rfl⟩
theorem cb52 : Callable Try.prog 52 := ⟨_, Try.func52, by kernel_rfl, rfl⟩
theorem cb53 : Callable Try.prog 53 := ⟨_, Try.func53, by kernel_rfl, rfl⟩
theorem cb54 : Callable Try.prog 54 := ⟨_, Try.func54, by kernel_rfl, rfl⟩
theorem cb55 : Callable Try.prog 55 := ⟨_, Try.func55, by kernel_rfl, rfl⟩
theorem cb56 : Callable Try.prog 56 := ⟨_, Try.func56, by kernel_rfl, rfl⟩
theorem cb57 : Callable Try.prog 57 := ⟨_, Try.func57, by kernel_rfl, rfl⟩
theorem cb58 : Callable Try.prog 58 := ⟨_, Try.func58, by kernel_rfl, rfl⟩
theorem cb59 : Callable Try.prog 59 := ⟨_, Try.func59, by kernel_rfl, rfl⟩
theorem cb60 : Callable Try.prog 60 := ⟨_, Try.func60, by kernel_rfl, rfl⟩
theorem cb61 : Callable Try.prog 61 := ⟨_, Try.func61, by kernel_rfl, rfl⟩
theorem cb62 : Callable Try.prog 62 := ⟨_, Try.func62, by kernel_rfl, rfl⟩
theorem cb63 : Callable Try.prog 63 := ⟨_, Try.func63, by kernel_rfl, rfl⟩
theorem cb64 : Callable Try.prog 64 := ⟨_, Try.func64, by kernel_rfl, rfl⟩
theorem cb65 : Callable Try.prog 65 := ⟨_, Try.func65, by kernel_rfl, rfl⟩
theorem cb66 : Callable Try.prog 66 := ⟨_, Try.func66, by kernel_rfl, rfl⟩
theorem cb67 : Callable Try.prog 67 := ⟨_, Try.func67, by kernel_rfl, rfl⟩
theorem cb68 : Callable Try.prog 68 := ⟨_, Try.func68, by kernel_rfl, rfl⟩
theorem cb69 : Callable Try.prog 69 := ⟨_, Try.func69, by kernel_rfl, rfl⟩
theorem cb70 : Callable Try.prog 70 := ⟨_, Try.func70, by kernel_rfl, rfl⟩
theorem cb71 : Callable Try.prog 71 := ⟨_, Try.func71, by kernel_rfl, rfl⟩
theorem cb72 : Callable Try.prog 72 := ⟨_, Try.func72, by kernel_rfl, rfl⟩
theorem cb73 : Callable Try.prog 73 := ⟨_, Try.func73, by kernel_rfl, rfl⟩
theorem cb74 : Callable Try.prog 74 := ⟨_, Try.func74, by kernel_rfl, rfl⟩
theorem cb75 : Callable Try.prog 75 := ⟨_, Try.func75, by kernel_rfl, rfl⟩
theorem cb76 : Callable Try.prog 76 := ⟨_, Try.func76, by kernel_rfl, rfl⟩
end Go.Proofs.Ytkdnclpgijkceaa
