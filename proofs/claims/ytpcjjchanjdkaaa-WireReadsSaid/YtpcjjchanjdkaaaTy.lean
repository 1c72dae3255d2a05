/- The rows of the types that the walks meet, each asked of the kernel. -/
import Derived.Test.YtpcjjchanjdkaaaProg
import Derived.Test.YtpcjjchanjdkaaaEq
import Derived.KernelRfl
namespace Go.Proofs.Ytpcjjchanjdkaaa.T
open Go
theorem un2 : Try.prog.underlying 2 = some (.int .i64) := by kernel_rfl
theorem ag2 : SL.AG Try.prog 2 false := SL.AG.mk (by kernel_rfl)
theorem sz2 : SL.SZ Try.prog 2 1 := SL.SZ.mk (by kernel_rfl)
theorem co2 : Try.prog.cellsOf 2 = 1 := by kernel_rfl
theorem ti2 : SL.TI Try.prog 2 1 8 ([Value.int .i64 0]) := SL.TI.mk (by kernel_rfl)
theorem un3 : Try.prog.underlying 3 = some (.int .i64) := by kernel_rfl
theorem ag3 : SL.AG Try.prog 3 false := SL.AG.mk (by kernel_rfl)
theorem sz3 : SL.SZ Try.prog 3 1 := SL.SZ.mk (by kernel_rfl)
theorem co3 : Try.prog.cellsOf 3 = 1 := by kernel_rfl
theorem ti3 : SL.TI Try.prog 3 1 8 ([Value.int .i64 0]) := SL.TI.mk (by kernel_rfl)
theorem un4 : Try.prog.underlying 4 = some (.bool) := by kernel_rfl
theorem ag4 : SL.AG Try.prog 4 false := SL.AG.mk (by kernel_rfl)
theorem sz4 : SL.SZ Try.prog 4 1 := SL.SZ.mk (by kernel_rfl)
theorem co4 : Try.prog.cellsOf 4 = 1 := by kernel_rfl
theorem ti4 : SL.TI Try.prog 4 1 1 ([Value.bool false]) := SL.TI.mk (by kernel_rfl)
theorem un5 : Try.prog.underlying 5 = some (.int .u8) := by kernel_rfl
theorem ag5 : SL.AG Try.prog 5 false := SL.AG.mk (by kernel_rfl)
theorem sz5 : SL.SZ Try.prog 5 1 := SL.SZ.mk (by kernel_rfl)
theorem co5 : Try.prog.cellsOf 5 = 1 := by kernel_rfl
theorem ti5 : SL.TI Try.prog 5 1 1 ([Value.int .u8 0]) := SL.TI.mk (by kernel_rfl)
theorem un9 : Try.prog.underlying 9 = some (.string) := by kernel_rfl
theorem ag9 : SL.AG Try.prog 9 false := SL.AG.mk (by kernel_rfl)
theorem sz9 : SL.SZ Try.prog 9 1 := SL.SZ.mk (by kernel_rfl)
theorem co9 : Try.prog.cellsOf 9 = 1 := by kernel_rfl
theorem ti9 : SL.TI Try.prog 9 1 16 ([Value.string ByteArray.empty]) := SL.TI.mk (by kernel_rfl)
theorem un12 : Try.prog.underlying 12 = some (.int .u64) := by kernel_rfl
theorem ag12 : SL.AG Try.prog 12 false := SL.AG.mk (by kernel_rfl)
theorem sz12 : SL.SZ Try.prog 12 1 := SL.SZ.mk (by kernel_rfl)
theorem co12 : Try.prog.cellsOf 12 = 1 := by kernel_rfl
theorem ti12 : SL.TI Try.prog 12 1 8 ([Value.int .u64 0]) := SL.TI.mk (by kernel_rfl)
theorem ag13 : SL.AG Try.prog 13 true := SL.AG.mk (by kernel_rfl)
theorem sz13 : SL.SZ Try.prog 13 2 := SL.SZ.mk (by kernel_rfl)
theorem co13 : Try.prog.cellsOf 13 = 2 := by kernel_rfl
theorem ti13 : SL.TI Try.prog 13 2 24 (([Value.string ByteArray.empty]) ++ ([Value.int .u64 0])) := SL.TI.mk (by kernel_rfl)
theorem fa13_0 : SL.FA Try.prog 13 0 0 1 := SL.FA.mk (by kernel_rfl)
theorem ft13_0 : SL.FT Try.prog 13 0 0 9 := SL.FT.mk (by kernel_rfl)
theorem fa13_1 : SL.FA Try.prog 13 1 1 1 := SL.FA.mk (by kernel_rfl)
theorem ft13_1 : SL.FT Try.prog 13 1 1 12 := SL.FT.mk (by kernel_rfl)
theorem un21 : Try.prog.underlying 21 = some (.int .i32) := by kernel_rfl
theorem ag21 : SL.AG Try.prog 21 false := SL.AG.mk (by kernel_rfl)
theorem sz21 : SL.SZ Try.prog 21 1 := SL.SZ.mk (by kernel_rfl)
theorem co21 : Try.prog.cellsOf 21 = 1 := by kernel_rfl
theorem ti21 : SL.TI Try.prog 21 1 4 ([Value.int .i32 0]) := SL.TI.mk (by kernel_rfl)
theorem un22 : Try.prog.underlying 22 = some (.slice 59) := by kernel_rfl
theorem ag22 : SL.AG Try.prog 22 false := SL.AG.mk (by kernel_rfl)
theorem sz22 : SL.SZ Try.prog 22 1 := SL.SZ.mk (by kernel_rfl)
theorem co22 : Try.prog.cellsOf 22 = 1 := by kernel_rfl
theorem ti22 : SL.TI Try.prog 22 1 24 ([Value.slice none 0 0]) := SL.TI.mk (by kernel_rfl)
theorem un23 : Try.prog.underlying 23 = some (.slice 71) := by kernel_rfl
theorem ag23 : SL.AG Try.prog 23 false := SL.AG.mk (by kernel_rfl)
theorem sz23 : SL.SZ Try.prog 23 1 := SL.SZ.mk (by kernel_rfl)
theorem co23 : Try.prog.cellsOf 23 = 1 := by kernel_rfl
theorem ti23 : SL.TI Try.prog 23 1 24 ([Value.slice none 0 0]) := SL.TI.mk (by kernel_rfl)
theorem un24 : Try.prog.underlying 24 = some (.int .u64) := by kernel_rfl
theorem ag24 : SL.AG Try.prog 24 false := SL.AG.mk (by kernel_rfl)
theorem sz24 : SL.SZ Try.prog 24 1 := SL.SZ.mk (by kernel_rfl)
theorem co24 : Try.prog.cellsOf 24 = 1 := by kernel_rfl
theorem ti24 : SL.TI Try.prog 24 1 8 ([Value.int .u64 0]) := SL.TI.mk (by kernel_rfl)
theorem ag25 : SL.AG Try.prog 25 true := SL.AG.mk (by kernel_rfl)
theorem sz25 : SL.SZ Try.prog 25 2 := SL.SZ.mk (by kernel_rfl)
theorem co25 : Try.prog.cellsOf 25 = 2 := by kernel_rfl
theorem ti25 : SL.TI Try.prog 25 2 16 (([Value.int .u64 0]) ++ ([Value.int .u64 0])) := SL.TI.mk (by kernel_rfl)
theorem fa25_0 : SL.FA Try.prog 25 0 0 1 := SL.FA.mk (by kernel_rfl)
theorem ft25_0 : SL.FT Try.prog 25 0 0 24 := SL.FT.mk (by kernel_rfl)
theorem fa25_1 : SL.FA Try.prog 25 1 1 1 := SL.FA.mk (by kernel_rfl)
theorem ft25_1 : SL.FT Try.prog 25 1 1 24 := SL.FT.mk (by kernel_rfl)
theorem ag26 : SL.AG Try.prog 26 true := SL.AG.mk (by kernel_rfl)
theorem sz26 : SL.SZ Try.prog 26 2 := SL.SZ.mk (by kernel_rfl)
theorem co26 : Try.prog.cellsOf 26 = 2 := by kernel_rfl
theorem ti26 : SL.TI Try.prog 26 2 16 (([Value.int .u64 0]) ++ ([Value.int .u64 0])) := SL.TI.mk (by kernel_rfl)
theorem fa26_0 : SL.FA Try.prog 26 0 0 1 := SL.FA.mk (by kernel_rfl)
theorem ft26_0 : SL.FT Try.prog 26 0 0 24 := SL.FT.mk (by kernel_rfl)
theorem fa26_1 : SL.FA Try.prog 26 1 1 1 := SL.FA.mk (by kernel_rfl)
theorem ft26_1 : SL.FT Try.prog 26 1 1 24 := SL.FT.mk (by kernel_rfl)
theorem ag27 : SL.AG Try.prog 27 true := SL.AG.mk (by kernel_rfl)
theorem sz27 : SL.SZ Try.prog 27 8 := SL.SZ.mk (by kernel_rfl)
theorem co27 : Try.prog.cellsOf 27 = 8 := by kernel_rfl
theorem ti27 : SL.TI Try.prog 27 8 96 (([Value.int .i64 0]) ++ ([Value.slice none 0 0]) ++ ([Value.slice none 0 0]) ++ (([Value.int .u64 0]) ++ ([Value.int .u64 0])) ++ ([Value.int .i64 0]) ++ ([Value.int .i64 0]) ++ ([Value.int .i64 0])) := SL.TI.mk (by kernel_rfl)
theorem fa27_0 : SL.FA Try.prog 27 0 0 1 := SL.FA.mk (by kernel_rfl)
theorem ft27_0 : SL.FT Try.prog 27 0 0 3 := SL.FT.mk (by kernel_rfl)
theorem fa27_1 : SL.FA Try.prog 27 1 1 1 := SL.FA.mk (by kernel_rfl)
theorem ft27_1 : SL.FT Try.prog 27 1 1 22 := SL.FT.mk (by kernel_rfl)
theorem fa27_2 : SL.FA Try.prog 27 2 2 1 := SL.FA.mk (by kernel_rfl)
theorem ft27_2 : SL.FT Try.prog 27 2 2 23 := SL.FT.mk (by kernel_rfl)
theorem fa27_3 : SL.FA Try.prog 27 3 3 2 := SL.FA.mk (by kernel_rfl)
theorem ft27_3 : SL.FT Try.prog 27 3 3 26 := SL.FT.mk (by kernel_rfl)
theorem fa27_4 : SL.FA Try.prog 27 4 5 1 := SL.FA.mk (by kernel_rfl)
theorem ft27_4 : SL.FT Try.prog 27 4 5 3 := SL.FT.mk (by kernel_rfl)
theorem fa27_5 : SL.FA Try.prog 27 5 6 1 := SL.FA.mk (by kernel_rfl)
theorem ft27_5 : SL.FT Try.prog 27 5 6 3 := SL.FT.mk (by kernel_rfl)
theorem fa27_6 : SL.FA Try.prog 27 6 7 1 := SL.FA.mk (by kernel_rfl)
theorem ft27_6 : SL.FT Try.prog 27 6 7 3 := SL.FT.mk (by kernel_rfl)
theorem ag28 : SL.AG Try.prog 28 true := SL.AG.mk (by kernel_rfl)
theorem sz28 : SL.SZ Try.prog 28 8 := SL.SZ.mk (by kernel_rfl)
theorem co28 : Try.prog.cellsOf 28 = 8 := by kernel_rfl
theorem ti28 : SL.TI Try.prog 28 8 96 (([Value.int .i64 0]) ++ ([Value.slice none 0 0]) ++ ([Value.slice none 0 0]) ++ (([Value.int .u64 0]) ++ ([Value.int .u64 0])) ++ ([Value.int .i64 0]) ++ ([Value.int .i64 0]) ++ ([Value.int .i64 0])) := SL.TI.mk (by kernel_rfl)
theorem fa28_0 : SL.FA Try.prog 28 0 0 1 := SL.FA.mk (by kernel_rfl)
theorem ft28_0 : SL.FT Try.prog 28 0 0 3 := SL.FT.mk (by kernel_rfl)
theorem fa28_1 : SL.FA Try.prog 28 1 1 1 := SL.FA.mk (by kernel_rfl)
theorem ft28_1 : SL.FT Try.prog 28 1 1 22 := SL.FT.mk (by kernel_rfl)
theorem fa28_2 : SL.FA Try.prog 28 2 2 1 := SL.FA.mk (by kernel_rfl)
theorem ft28_2 : SL.FT Try.prog 28 2 2 23 := SL.FT.mk (by kernel_rfl)
theorem fa28_3 : SL.FA Try.prog 28 3 3 2 := SL.FA.mk (by kernel_rfl)
theorem ft28_3 : SL.FT Try.prog 28 3 3 26 := SL.FT.mk (by kernel_rfl)
theorem fa28_4 : SL.FA Try.prog 28 4 5 1 := SL.FA.mk (by kernel_rfl)
theorem ft28_4 : SL.FT Try.prog 28 4 5 3 := SL.FT.mk (by kernel_rfl)
theorem fa28_5 : SL.FA Try.prog 28 5 6 1 := SL.FA.mk (by kernel_rfl)
theorem ft28_5 : SL.FT Try.prog 28 5 6 3 := SL.FT.mk (by kernel_rfl)
theorem fa28_6 : SL.FA Try.prog 28 6 7 1 := SL.FA.mk (by kernel_rfl)
theorem ft28_6 : SL.FT Try.prog 28 6 7 3 := SL.FT.mk (by kernel_rfl)
theorem un32 : Try.prog.underlying 32 = some (.slice 5) := by kernel_rfl
theorem ag32 : SL.AG Try.prog 32 false := SL.AG.mk (by kernel_rfl)
theorem sz32 : SL.SZ Try.prog 32 1 := SL.SZ.mk (by kernel_rfl)
theorem co32 : Try.prog.cellsOf 32 = 1 := by kernel_rfl
theorem ti32 : SL.TI Try.prog 32 1 24 ([Value.slice none 0 0]) := SL.TI.mk (by kernel_rfl)
theorem un35 : Try.prog.underlying 35 = some (.map 3 3) := by kernel_rfl
theorem ag35 : SL.AG Try.prog 35 false := SL.AG.mk (by kernel_rfl)
theorem sz35 : SL.SZ Try.prog 35 1 := SL.SZ.mk (by kernel_rfl)
theorem co35 : Try.prog.cellsOf 35 = 1 := by kernel_rfl
theorem ti35 : SL.TI Try.prog 35 1 8 ([Value.map none]) := SL.TI.mk (by kernel_rfl)
theorem un36 : Try.prog.underlying 36 = some (.int .i64) := by kernel_rfl
theorem ag36 : SL.AG Try.prog 36 false := SL.AG.mk (by kernel_rfl)
theorem sz36 : SL.SZ Try.prog 36 1 := SL.SZ.mk (by kernel_rfl)
theorem co36 : Try.prog.cellsOf 36 = 1 := by kernel_rfl
theorem ti36 : SL.TI Try.prog 36 1 8 ([Value.int .i64 0]) := SL.TI.mk (by kernel_rfl)
theorem un41 : Try.prog.underlying 41 = some (.slice 3) := by kernel_rfl
theorem ag41 : SL.AG Try.prog 41 false := SL.AG.mk (by kernel_rfl)
theorem sz41 : SL.SZ Try.prog 41 1 := SL.SZ.mk (by kernel_rfl)
theorem co41 : Try.prog.cellsOf 41 = 1 := by kernel_rfl
theorem ti41 : SL.TI Try.prog 41 1 24 ([Value.slice none 0 0]) := SL.TI.mk (by kernel_rfl)
theorem un42 : Try.prog.underlying 42 = some (.array 32 5) := by kernel_rfl
theorem ag42 : SL.AG Try.prog 42 true := SL.AG.mk (by kernel_rfl)
theorem sz42 : SL.SZ Try.prog 42 32 := SL.SZ.mk (by kernel_rfl)
theorem co42 : Try.prog.cellsOf 42 = 32 := by kernel_rfl
theorem ti42 : SL.TI Try.prog 42 32 32 (List.replicate 32 (Value.int .u8 0)) := SL.TI.mk (by kernel_rfl)
theorem un43 : Try.prog.underlying 43 = some (.array 32 5) := by kernel_rfl
theorem ag43 : SL.AG Try.prog 43 true := SL.AG.mk (by kernel_rfl)
theorem sz43 : SL.SZ Try.prog 43 32 := SL.SZ.mk (by kernel_rfl)
theorem co43 : Try.prog.cellsOf 43 = 32 := by kernel_rfl
theorem ti43 : SL.TI Try.prog 43 32 32 (List.replicate 32 (Value.int .u8 0)) := SL.TI.mk (by kernel_rfl)
theorem ag44 : SL.AG Try.prog 44 true := SL.AG.mk (by kernel_rfl)
theorem sz44 : SL.SZ Try.prog 44 1 := SL.SZ.mk (by kernel_rfl)
theorem co44 : Try.prog.cellsOf 44 = 1 := by kernel_rfl
theorem ti44 : SL.TI Try.prog 44 1 24 (([Value.slice none 0 0])) := SL.TI.mk (by kernel_rfl)
theorem fa44_0 : SL.FA Try.prog 44 0 0 1 := SL.FA.mk (by kernel_rfl)
theorem ft44_0 : SL.FT Try.prog 44 0 0 32 := SL.FT.mk (by kernel_rfl)
theorem ag45 : SL.AG Try.prog 45 true := SL.AG.mk (by kernel_rfl)
theorem sz45 : SL.SZ Try.prog 45 1 := SL.SZ.mk (by kernel_rfl)
theorem co45 : Try.prog.cellsOf 45 = 1 := by kernel_rfl
theorem ti45 : SL.TI Try.prog 45 1 24 (([Value.slice none 0 0])) := SL.TI.mk (by kernel_rfl)
theorem fa45_0 : SL.FA Try.prog 45 0 0 1 := SL.FA.mk (by kernel_rfl)
theorem ft45_0 : SL.FT Try.prog 45 0 0 32 := SL.FT.mk (by kernel_rfl)
theorem un46 : Try.prog.underlying 46 = some (.pointer 45) := by kernel_rfl
theorem ag46 : SL.AG Try.prog 46 false := SL.AG.mk (by kernel_rfl)
theorem sz46 : SL.SZ Try.prog 46 1 := SL.SZ.mk (by kernel_rfl)
theorem co46 : Try.prog.cellsOf 46 = 1 := by kernel_rfl
theorem ti46 : SL.TI Try.prog 46 1 8 ([Value.pointer none]) := SL.TI.mk (by kernel_rfl)
theorem un52 : Try.prog.underlying 52 = some (.pointer 78) := by kernel_rfl
theorem ag52 : SL.AG Try.prog 52 false := SL.AG.mk (by kernel_rfl)
theorem sz52 : SL.SZ Try.prog 52 1 := SL.SZ.mk (by kernel_rfl)
theorem co52 : Try.prog.cellsOf 52 = 1 := by kernel_rfl
theorem ti52 : SL.TI Try.prog 52 1 8 ([Value.pointer none]) := SL.TI.mk (by kernel_rfl)
theorem ag58 : SL.AG Try.prog 58 true := SL.AG.mk (by kernel_rfl)
theorem sz58 : SL.SZ Try.prog 58 46 := SL.SZ.mk (by kernel_rfl)
theorem co58 : Try.prog.cellsOf 58 = 46 := by kernel_rfl
theorem ti58 : SL.TI Try.prog 58 46 144 ((([Value.int .u64 0]) ++ ([Value.int .u64 0])) ++ ([Value.int .i64 0]) ++ ([Value.int .i64 0]) ++ (([Value.int .u64 0]) ++ ([Value.int .u64 0])) ++ (([Value.int .u64 0]) ++ ([Value.int .u64 0])) ++ (([Value.int .u64 0]) ++ ([Value.int .u64 0])) ++ (([Value.int .u64 0]) ++ ([Value.int .u64 0])) ++ ([Value.int .i64 0]) ++ ([Value.int .i64 0]) ++ (List.replicate 32 (Value.int .u8 0))) := SL.TI.mk (by kernel_rfl)
theorem fa58_0 : SL.FA Try.prog 58 0 0 2 := SL.FA.mk (by kernel_rfl)
theorem ft58_0 : SL.FT Try.prog 58 0 0 26 := SL.FT.mk (by kernel_rfl)
theorem fa58_1 : SL.FA Try.prog 58 1 2 1 := SL.FA.mk (by kernel_rfl)
theorem ft58_1 : SL.FT Try.prog 58 1 2 3 := SL.FT.mk (by kernel_rfl)
theorem fa58_2 : SL.FA Try.prog 58 2 3 1 := SL.FA.mk (by kernel_rfl)
theorem ft58_2 : SL.FT Try.prog 58 2 3 3 := SL.FT.mk (by kernel_rfl)
theorem fa58_3 : SL.FA Try.prog 58 3 4 2 := SL.FA.mk (by kernel_rfl)
theorem ft58_3 : SL.FT Try.prog 58 3 4 26 := SL.FT.mk (by kernel_rfl)
theorem fa58_4 : SL.FA Try.prog 58 4 6 2 := SL.FA.mk (by kernel_rfl)
theorem ft58_4 : SL.FT Try.prog 58 4 6 26 := SL.FT.mk (by kernel_rfl)
theorem fa58_5 : SL.FA Try.prog 58 5 8 2 := SL.FA.mk (by kernel_rfl)
theorem ft58_5 : SL.FT Try.prog 58 5 8 26 := SL.FT.mk (by kernel_rfl)
theorem fa58_6 : SL.FA Try.prog 58 6 10 2 := SL.FA.mk (by kernel_rfl)
theorem ft58_6 : SL.FT Try.prog 58 6 10 26 := SL.FT.mk (by kernel_rfl)
theorem fa58_7 : SL.FA Try.prog 58 7 12 1 := SL.FA.mk (by kernel_rfl)
theorem ft58_7 : SL.FT Try.prog 58 7 12 3 := SL.FT.mk (by kernel_rfl)
theorem fa58_8 : SL.FA Try.prog 58 8 13 1 := SL.FA.mk (by kernel_rfl)
theorem ft58_8 : SL.FT Try.prog 58 8 13 3 := SL.FT.mk (by kernel_rfl)
theorem fa58_9 : SL.FA Try.prog 58 9 14 32 := SL.FA.mk (by kernel_rfl)
theorem ft58_9 : SL.FT Try.prog 58 9 14 43 := SL.FT.mk (by kernel_rfl)
theorem ag59 : SL.AG Try.prog 59 true := SL.AG.mk (by kernel_rfl)
theorem sz59 : SL.SZ Try.prog 59 46 := SL.SZ.mk (by kernel_rfl)
theorem co59 : Try.prog.cellsOf 59 = 46 := by kernel_rfl
theorem ti59 : SL.TI Try.prog 59 46 144 ((([Value.int .u64 0]) ++ ([Value.int .u64 0])) ++ ([Value.int .i64 0]) ++ ([Value.int .i64 0]) ++ (([Value.int .u64 0]) ++ ([Value.int .u64 0])) ++ (([Value.int .u64 0]) ++ ([Value.int .u64 0])) ++ (([Value.int .u64 0]) ++ ([Value.int .u64 0])) ++ (([Value.int .u64 0]) ++ ([Value.int .u64 0])) ++ ([Value.int .i64 0]) ++ ([Value.int .i64 0]) ++ (List.replicate 32 (Value.int .u8 0))) := SL.TI.mk (by kernel_rfl)
theorem fa59_0 : SL.FA Try.prog 59 0 0 2 := SL.FA.mk (by kernel_rfl)
theorem ft59_0 : SL.FT Try.prog 59 0 0 26 := SL.FT.mk (by kernel_rfl)
theorem fa59_1 : SL.FA Try.prog 59 1 2 1 := SL.FA.mk (by kernel_rfl)
theorem ft59_1 : SL.FT Try.prog 59 1 2 3 := SL.FT.mk (by kernel_rfl)
theorem fa59_2 : SL.FA Try.prog 59 2 3 1 := SL.FA.mk (by kernel_rfl)
theorem ft59_2 : SL.FT Try.prog 59 2 3 3 := SL.FT.mk (by kernel_rfl)
theorem fa59_3 : SL.FA Try.prog 59 3 4 2 := SL.FA.mk (by kernel_rfl)
theorem ft59_3 : SL.FT Try.prog 59 3 4 26 := SL.FT.mk (by kernel_rfl)
theorem fa59_4 : SL.FA Try.prog 59 4 6 2 := SL.FA.mk (by kernel_rfl)
theorem ft59_4 : SL.FT Try.prog 59 4 6 26 := SL.FT.mk (by kernel_rfl)
theorem fa59_5 : SL.FA Try.prog 59 5 8 2 := SL.FA.mk (by kernel_rfl)
theorem ft59_5 : SL.FT Try.prog 59 5 8 26 := SL.FT.mk (by kernel_rfl)
theorem fa59_6 : SL.FA Try.prog 59 6 10 2 := SL.FA.mk (by kernel_rfl)
theorem ft59_6 : SL.FT Try.prog 59 6 10 26 := SL.FT.mk (by kernel_rfl)
theorem fa59_7 : SL.FA Try.prog 59 7 12 1 := SL.FA.mk (by kernel_rfl)
theorem ft59_7 : SL.FT Try.prog 59 7 12 3 := SL.FT.mk (by kernel_rfl)
theorem fa59_8 : SL.FA Try.prog 59 8 13 1 := SL.FA.mk (by kernel_rfl)
theorem ft59_8 : SL.FT Try.prog 59 8 13 3 := SL.FT.mk (by kernel_rfl)
theorem fa59_9 : SL.FA Try.prog 59 9 14 32 := SL.FA.mk (by kernel_rfl)
theorem ft59_9 : SL.FT Try.prog 59 9 14 43 := SL.FT.mk (by kernel_rfl)
theorem ag60 : SL.AG Try.prog 60 true := SL.AG.mk (by kernel_rfl)
theorem sz60 : SL.SZ Try.prog 60 14 := SL.SZ.mk (by kernel_rfl)
theorem co60 : Try.prog.cellsOf 60 = 14 := by kernel_rfl
theorem ti60 : SL.TI Try.prog 60 14 112 ((([Value.int .u64 0]) ++ ([Value.int .u64 0])) ++ ([Value.int .i64 0]) ++ ([Value.int .i64 0]) ++ (([Value.int .u64 0]) ++ ([Value.int .u64 0])) ++ (([Value.int .u64 0]) ++ ([Value.int .u64 0])) ++ (([Value.int .u64 0]) ++ ([Value.int .u64 0])) ++ (([Value.int .u64 0]) ++ ([Value.int .u64 0])) ++ (([Value.int .u64 0]) ++ ([Value.int .u64 0]))) := SL.TI.mk (by kernel_rfl)
theorem fa60_0 : SL.FA Try.prog 60 0 0 2 := SL.FA.mk (by kernel_rfl)
theorem ft60_0 : SL.FT Try.prog 60 0 0 26 := SL.FT.mk (by kernel_rfl)
theorem fa60_1 : SL.FA Try.prog 60 1 2 1 := SL.FA.mk (by kernel_rfl)
theorem ft60_1 : SL.FT Try.prog 60 1 2 3 := SL.FT.mk (by kernel_rfl)
theorem fa60_2 : SL.FA Try.prog 60 2 3 1 := SL.FA.mk (by kernel_rfl)
theorem ft60_2 : SL.FT Try.prog 60 2 3 3 := SL.FT.mk (by kernel_rfl)
theorem fa60_3 : SL.FA Try.prog 60 3 4 2 := SL.FA.mk (by kernel_rfl)
theorem ft60_3 : SL.FT Try.prog 60 3 4 26 := SL.FT.mk (by kernel_rfl)
theorem fa60_4 : SL.FA Try.prog 60 4 6 2 := SL.FA.mk (by kernel_rfl)
theorem ft60_4 : SL.FT Try.prog 60 4 6 26 := SL.FT.mk (by kernel_rfl)
theorem fa60_5 : SL.FA Try.prog 60 5 8 2 := SL.FA.mk (by kernel_rfl)
theorem ft60_5 : SL.FT Try.prog 60 5 8 26 := SL.FT.mk (by kernel_rfl)
theorem fa60_6 : SL.FA Try.prog 60 6 10 2 := SL.FA.mk (by kernel_rfl)
theorem ft60_6 : SL.FT Try.prog 60 6 10 26 := SL.FT.mk (by kernel_rfl)
theorem fa60_7 : SL.FA Try.prog 60 7 12 2 := SL.FA.mk (by kernel_rfl)
theorem ft60_7 : SL.FT Try.prog 60 7 12 26 := SL.FT.mk (by kernel_rfl)
theorem ag61 : SL.AG Try.prog 61 true := SL.AG.mk (by kernel_rfl)
theorem sz61 : SL.SZ Try.prog 61 14 := SL.SZ.mk (by kernel_rfl)
theorem co61 : Try.prog.cellsOf 61 = 14 := by kernel_rfl
theorem ti61 : SL.TI Try.prog 61 14 112 ((([Value.int .u64 0]) ++ ([Value.int .u64 0])) ++ ([Value.int .i64 0]) ++ ([Value.int .i64 0]) ++ (([Value.int .u64 0]) ++ ([Value.int .u64 0])) ++ (([Value.int .u64 0]) ++ ([Value.int .u64 0])) ++ (([Value.int .u64 0]) ++ ([Value.int .u64 0])) ++ (([Value.int .u64 0]) ++ ([Value.int .u64 0])) ++ (([Value.int .u64 0]) ++ ([Value.int .u64 0]))) := SL.TI.mk (by kernel_rfl)
theorem fa61_0 : SL.FA Try.prog 61 0 0 2 := SL.FA.mk (by kernel_rfl)
theorem ft61_0 : SL.FT Try.prog 61 0 0 26 := SL.FT.mk (by kernel_rfl)
theorem fa61_1 : SL.FA Try.prog 61 1 2 1 := SL.FA.mk (by kernel_rfl)
theorem ft61_1 : SL.FT Try.prog 61 1 2 3 := SL.FT.mk (by kernel_rfl)
theorem fa61_2 : SL.FA Try.prog 61 2 3 1 := SL.FA.mk (by kernel_rfl)
theorem ft61_2 : SL.FT Try.prog 61 2 3 3 := SL.FT.mk (by kernel_rfl)
theorem fa61_3 : SL.FA Try.prog 61 3 4 2 := SL.FA.mk (by kernel_rfl)
theorem ft61_3 : SL.FT Try.prog 61 3 4 26 := SL.FT.mk (by kernel_rfl)
theorem fa61_4 : SL.FA Try.prog 61 4 6 2 := SL.FA.mk (by kernel_rfl)
theorem ft61_4 : SL.FT Try.prog 61 4 6 26 := SL.FT.mk (by kernel_rfl)
theorem fa61_5 : SL.FA Try.prog 61 5 8 2 := SL.FA.mk (by kernel_rfl)
theorem ft61_5 : SL.FT Try.prog 61 5 8 26 := SL.FT.mk (by kernel_rfl)
theorem fa61_6 : SL.FA Try.prog 61 6 10 2 := SL.FA.mk (by kernel_rfl)
theorem ft61_6 : SL.FT Try.prog 61 6 10 26 := SL.FT.mk (by kernel_rfl)
theorem fa61_7 : SL.FA Try.prog 61 7 12 2 := SL.FA.mk (by kernel_rfl)
theorem ft61_7 : SL.FT Try.prog 61 7 12 26 := SL.FT.mk (by kernel_rfl)
theorem ag70 : SL.AG Try.prog 70 true := SL.AG.mk (by kernel_rfl)
theorem sz70 : SL.SZ Try.prog 70 16 := SL.SZ.mk (by kernel_rfl)
theorem co70 : Try.prog.cellsOf 70 = 16 := by kernel_rfl
theorem ti70 : SL.TI Try.prog 70 16 128 ((([Value.int .u64 0]) ++ ([Value.int .u64 0])) ++ (([Value.int .u64 0]) ++ ([Value.int .u64 0])) ++ (([Value.int .u64 0]) ++ ([Value.int .u64 0])) ++ (([Value.int .u64 0]) ++ ([Value.int .u64 0])) ++ (([Value.int .u64 0]) ++ ([Value.int .u64 0])) ++ ([Value.int .i64 0]) ++ ([Value.int .i64 0]) ++ ([Value.int .i64 0]) ++ ([Value.int .i64 0]) ++ ([Value.int .i64 0]) ++ ([Value.int .i64 0])) := SL.TI.mk (by kernel_rfl)
theorem fa70_0 : SL.FA Try.prog 70 0 0 2 := SL.FA.mk (by kernel_rfl)
theorem ft70_0 : SL.FT Try.prog 70 0 0 26 := SL.FT.mk (by kernel_rfl)
theorem fa70_1 : SL.FA Try.prog 70 1 2 2 := SL.FA.mk (by kernel_rfl)
theorem ft70_1 : SL.FT Try.prog 70 1 2 26 := SL.FT.mk (by kernel_rfl)
theorem fa70_2 : SL.FA Try.prog 70 2 4 2 := SL.FA.mk (by kernel_rfl)
theorem ft70_2 : SL.FT Try.prog 70 2 4 26 := SL.FT.mk (by kernel_rfl)
theorem fa70_3 : SL.FA Try.prog 70 3 6 2 := SL.FA.mk (by kernel_rfl)
theorem ft70_3 : SL.FT Try.prog 70 3 6 26 := SL.FT.mk (by kernel_rfl)
theorem fa70_4 : SL.FA Try.prog 70 4 8 2 := SL.FA.mk (by kernel_rfl)
theorem ft70_4 : SL.FT Try.prog 70 4 8 26 := SL.FT.mk (by kernel_rfl)
theorem fa70_5 : SL.FA Try.prog 70 5 10 1 := SL.FA.mk (by kernel_rfl)
theorem ft70_5 : SL.FT Try.prog 70 5 10 3 := SL.FT.mk (by kernel_rfl)
theorem fa70_6 : SL.FA Try.prog 70 6 11 1 := SL.FA.mk (by kernel_rfl)
theorem ft70_6 : SL.FT Try.prog 70 6 11 3 := SL.FT.mk (by kernel_rfl)
theorem fa70_7 : SL.FA Try.prog 70 7 12 1 := SL.FA.mk (by kernel_rfl)
theorem ft70_7 : SL.FT Try.prog 70 7 12 3 := SL.FT.mk (by kernel_rfl)
theorem fa70_8 : SL.FA Try.prog 70 8 13 1 := SL.FA.mk (by kernel_rfl)
theorem ft70_8 : SL.FT Try.prog 70 8 13 3 := SL.FT.mk (by kernel_rfl)
theorem fa70_9 : SL.FA Try.prog 70 9 14 1 := SL.FA.mk (by kernel_rfl)
theorem ft70_9 : SL.FT Try.prog 70 9 14 3 := SL.FT.mk (by kernel_rfl)
theorem fa70_10 : SL.FA Try.prog 70 10 15 1 := SL.FA.mk (by kernel_rfl)
theorem ft70_10 : SL.FT Try.prog 70 10 15 3 := SL.FT.mk (by kernel_rfl)
theorem ag71 : SL.AG Try.prog 71 true := SL.AG.mk (by kernel_rfl)
theorem sz71 : SL.SZ Try.prog 71 16 := SL.SZ.mk (by kernel_rfl)
theorem co71 : Try.prog.cellsOf 71 = 16 := by kernel_rfl
theorem ti71 : SL.TI Try.prog 71 16 128 ((([Value.int .u64 0]) ++ ([Value.int .u64 0])) ++ (([Value.int .u64 0]) ++ ([Value.int .u64 0])) ++ (([Value.int .u64 0]) ++ ([Value.int .u64 0])) ++ (([Value.int .u64 0]) ++ ([Value.int .u64 0])) ++ (([Value.int .u64 0]) ++ ([Value.int .u64 0])) ++ ([Value.int .i64 0]) ++ ([Value.int .i64 0]) ++ ([Value.int .i64 0]) ++ ([Value.int .i64 0]) ++ ([Value.int .i64 0]) ++ ([Value.int .i64 0])) := SL.TI.mk (by kernel_rfl)
theorem fa71_0 : SL.FA Try.prog 71 0 0 2 := SL.FA.mk (by kernel_rfl)
theorem ft71_0 : SL.FT Try.prog 71 0 0 26 := SL.FT.mk (by kernel_rfl)
theorem fa71_1 : SL.FA Try.prog 71 1 2 2 := SL.FA.mk (by kernel_rfl)
theorem ft71_1 : SL.FT Try.prog 71 1 2 26 := SL.FT.mk (by kernel_rfl)
theorem fa71_2 : SL.FA Try.prog 71 2 4 2 := SL.FA.mk (by kernel_rfl)
theorem ft71_2 : SL.FT Try.prog 71 2 4 26 := SL.FT.mk (by kernel_rfl)
theorem fa71_3 : SL.FA Try.prog 71 3 6 2 := SL.FA.mk (by kernel_rfl)
theorem ft71_3 : SL.FT Try.prog 71 3 6 26 := SL.FT.mk (by kernel_rfl)
theorem fa71_4 : SL.FA Try.prog 71 4 8 2 := SL.FA.mk (by kernel_rfl)
theorem ft71_4 : SL.FT Try.prog 71 4 8 26 := SL.FT.mk (by kernel_rfl)
theorem fa71_5 : SL.FA Try.prog 71 5 10 1 := SL.FA.mk (by kernel_rfl)
theorem ft71_5 : SL.FT Try.prog 71 5 10 3 := SL.FT.mk (by kernel_rfl)
theorem fa71_6 : SL.FA Try.prog 71 6 11 1 := SL.FA.mk (by kernel_rfl)
theorem ft71_6 : SL.FT Try.prog 71 6 11 3 := SL.FT.mk (by kernel_rfl)
theorem fa71_7 : SL.FA Try.prog 71 7 12 1 := SL.FA.mk (by kernel_rfl)
theorem ft71_7 : SL.FT Try.prog 71 7 12 3 := SL.FT.mk (by kernel_rfl)
theorem fa71_8 : SL.FA Try.prog 71 8 13 1 := SL.FA.mk (by kernel_rfl)
theorem ft71_8 : SL.FT Try.prog 71 8 13 3 := SL.FT.mk (by kernel_rfl)
theorem fa71_9 : SL.FA Try.prog 71 9 14 1 := SL.FA.mk (by kernel_rfl)
theorem ft71_9 : SL.FT Try.prog 71 9 14 3 := SL.FT.mk (by kernel_rfl)
theorem fa71_10 : SL.FA Try.prog 71 10 15 1 := SL.FA.mk (by kernel_rfl)
theorem ft71_10 : SL.FT Try.prog 71 10 15 3 := SL.FT.mk (by kernel_rfl)
theorem un73 : Try.prog.underlying 73 = some (.slice 43) := by kernel_rfl
theorem ag73 : SL.AG Try.prog 73 false := SL.AG.mk (by kernel_rfl)
theorem sz73 : SL.SZ Try.prog 73 1 := SL.SZ.mk (by kernel_rfl)
theorem co73 : Try.prog.cellsOf 73 = 1 := by kernel_rfl
theorem ti73 : SL.TI Try.prog 73 1 24 ([Value.slice none 0 0]) := SL.TI.mk (by kernel_rfl)
theorem un74 : Try.prog.underlying 74 = some (.slice 26) := by kernel_rfl
theorem ag74 : SL.AG Try.prog 74 false := SL.AG.mk (by kernel_rfl)
theorem sz74 : SL.SZ Try.prog 74 1 := SL.SZ.mk (by kernel_rfl)
theorem co74 : Try.prog.cellsOf 74 = 1 := by kernel_rfl
theorem ti74 : SL.TI Try.prog 74 1 24 ([Value.slice none 0 0]) := SL.TI.mk (by kernel_rfl)
theorem un76 : Try.prog.underlying 76 = some (.slice 32) := by kernel_rfl
theorem ag76 : SL.AG Try.prog 76 false := SL.AG.mk (by kernel_rfl)
theorem sz76 : SL.SZ Try.prog 76 1 := SL.SZ.mk (by kernel_rfl)
theorem co76 : Try.prog.cellsOf 76 = 1 := by kernel_rfl
theorem ti76 : SL.TI Try.prog 76 1 24 ([Value.slice none 0 0]) := SL.TI.mk (by kernel_rfl)
theorem ag77 : SL.AG Try.prog 77 true := SL.AG.mk (by kernel_rfl)
theorem sz77 : SL.SZ Try.prog 77 2 := SL.SZ.mk (by kernel_rfl)
theorem co77 : Try.prog.cellsOf 77 = 2 := by kernel_rfl
theorem ti77 : SL.TI Try.prog 77 2 32 (([Value.slice none 0 0]) ++ ([Value.bool false])) := SL.TI.mk (by kernel_rfl)
theorem fa77_0 : SL.FA Try.prog 77 0 0 1 := SL.FA.mk (by kernel_rfl)
theorem ft77_0 : SL.FT Try.prog 77 0 0 32 := SL.FT.mk (by kernel_rfl)
theorem fa77_1 : SL.FA Try.prog 77 1 1 1 := SL.FA.mk (by kernel_rfl)
theorem ft77_1 : SL.FT Try.prog 77 1 1 4 := SL.FT.mk (by kernel_rfl)
theorem ag78 : SL.AG Try.prog 78 true := SL.AG.mk (by kernel_rfl)
theorem sz78 : SL.SZ Try.prog 78 2 := SL.SZ.mk (by kernel_rfl)
theorem co78 : Try.prog.cellsOf 78 = 2 := by kernel_rfl
theorem ti78 : SL.TI Try.prog 78 2 32 (([Value.slice none 0 0]) ++ ([Value.bool false])) := SL.TI.mk (by kernel_rfl)
theorem fa78_0 : SL.FA Try.prog 78 0 0 1 := SL.FA.mk (by kernel_rfl)
theorem ft78_0 : SL.FT Try.prog 78 0 0 32 := SL.FT.mk (by kernel_rfl)
theorem fa78_1 : SL.FA Try.prog 78 1 1 1 := SL.FA.mk (by kernel_rfl)
theorem ft78_1 : SL.FT Try.prog 78 1 1 4 := SL.FT.mk (by kernel_rfl)
theorem un80 : Try.prog.underlying 80 = some (.int .u64) := by kernel_rfl
theorem ag80 : SL.AG Try.prog 80 false := SL.AG.mk (by kernel_rfl)
theorem sz80 : SL.SZ Try.prog 80 1 := SL.SZ.mk (by kernel_rfl)
theorem co80 : Try.prog.cellsOf 80 = 1 := by kernel_rfl
theorem ti80 : SL.TI Try.prog 80 1 8 ([Value.int .u64 0]) := SL.TI.mk (by kernel_rfl)
theorem un88 : Try.prog.underlying 88 = some (.pointer 106) := by kernel_rfl
theorem ag88 : SL.AG Try.prog 88 false := SL.AG.mk (by kernel_rfl)
theorem sz88 : SL.SZ Try.prog 88 1 := SL.SZ.mk (by kernel_rfl)
theorem co88 : Try.prog.cellsOf 88 = 1 := by kernel_rfl
theorem ti88 : SL.TI Try.prog 88 1 8 ([Value.pointer none]) := SL.TI.mk (by kernel_rfl)
theorem un96 : Try.prog.underlying 96 = some (.int .u32) := by kernel_rfl
theorem ag96 : SL.AG Try.prog 96 false := SL.AG.mk (by kernel_rfl)
theorem sz96 : SL.SZ Try.prog 96 1 := SL.SZ.mk (by kernel_rfl)
theorem co96 : Try.prog.cellsOf 96 = 1 := by kernel_rfl
theorem ti96 : SL.TI Try.prog 96 1 4 ([Value.int .u32 0]) := SL.TI.mk (by kernel_rfl)
theorem un100 : Try.prog.underlying 100 = some (.pointer 5) := by kernel_rfl
theorem ag100 : SL.AG Try.prog 100 false := SL.AG.mk (by kernel_rfl)
theorem sz100 : SL.SZ Try.prog 100 1 := SL.SZ.mk (by kernel_rfl)
theorem co100 : Try.prog.cellsOf 100 = 1 := by kernel_rfl
theorem ti100 : SL.TI Try.prog 100 1 8 ([Value.pointer none]) := SL.TI.mk (by kernel_rfl)
theorem ag105 : SL.AG Try.prog 105 true := SL.AG.mk (by kernel_rfl)
theorem sz105 : SL.SZ Try.prog 105 1 := SL.SZ.mk (by kernel_rfl)
theorem co105 : Try.prog.cellsOf 105 = 1 := by kernel_rfl
theorem ti105 : SL.TI Try.prog 105 1 16 (([Value.string ByteArray.empty])) := SL.TI.mk (by kernel_rfl)
theorem fa105_0 : SL.FA Try.prog 105 0 0 1 := SL.FA.mk (by kernel_rfl)
theorem ft105_0 : SL.FT Try.prog 105 0 0 9 := SL.FT.mk (by kernel_rfl)
theorem ag106 : SL.AG Try.prog 106 true := SL.AG.mk (by kernel_rfl)
theorem sz106 : SL.SZ Try.prog 106 1 := SL.SZ.mk (by kernel_rfl)
theorem co106 : Try.prog.cellsOf 106 = 1 := by kernel_rfl
theorem ti106 : SL.TI Try.prog 106 1 16 (([Value.string ByteArray.empty])) := SL.TI.mk (by kernel_rfl)
theorem fa106_0 : SL.FA Try.prog 106 0 0 1 := SL.FA.mk (by kernel_rfl)
theorem ft106_0 : SL.FT Try.prog 106 0 0 9 := SL.FT.mk (by kernel_rfl)
theorem eq25 : SL.EQ Try.prog 25 [.u64, .u64] := ⟨by kernel_rfl, by kernel_rfl, SL.AG.mk (by kernel_rfl)⟩
theorem eq26 : SL.EQ Try.prog 26 [.u64, .u64] := ⟨by kernel_rfl, by kernel_rfl, SL.AG.mk (by kernel_rfl)⟩
theorem eq42 : SL.EQ Try.prog 42 [.u8, .u8, .u8, .u8, .u8, .u8, .u8, .u8, .u8, .u8, .u8, .u8, .u8, .u8, .u8, .u8, .u8, .u8, .u8, .u8, .u8, .u8, .u8, .u8, .u8, .u8, .u8, .u8, .u8, .u8, .u8, .u8] := ⟨by kernel_rfl, by kernel_rfl, SL.AG.mk (by kernel_rfl)⟩
theorem eq43 : SL.EQ Try.prog 43 [.u8, .u8, .u8, .u8, .u8, .u8, .u8, .u8, .u8, .u8, .u8, .u8, .u8, .u8, .u8, .u8, .u8, .u8, .u8, .u8, .u8, .u8, .u8, .u8, .u8, .u8, .u8, .u8, .u8, .u8, .u8, .u8] := ⟨by kernel_rfl, by kernel_rfl, SL.AG.mk (by kernel_rfl)⟩
theorem eq58 : SL.EQ Try.prog 58 [.u64, .u64, .i64, .i64, .u64, .u64, .u64, .u64, .u64, .u64, .u64, .u64, .i64, .i64, .u8, .u8, .u8, .u8, .u8, .u8, .u8, .u8, .u8, .u8, .u8, .u8, .u8, .u8, .u8, .u8, .u8, .u8, .u8, .u8, .u8, .u8, .u8, .u8, .u8, .u8, .u8, .u8, .u8, .u8, .u8, .u8] := ⟨by kernel_rfl, by kernel_rfl, SL.AG.mk (by kernel_rfl)⟩
theorem eq59 : SL.EQ Try.prog 59 [.u64, .u64, .i64, .i64, .u64, .u64, .u64, .u64, .u64, .u64, .u64, .u64, .i64, .i64, .u8, .u8, .u8, .u8, .u8, .u8, .u8, .u8, .u8, .u8, .u8, .u8, .u8, .u8, .u8, .u8, .u8, .u8, .u8, .u8, .u8, .u8, .u8, .u8, .u8, .u8, .u8, .u8, .u8, .u8, .u8, .u8] := ⟨by kernel_rfl, by kernel_rfl, SL.AG.mk (by kernel_rfl)⟩
theorem eq60 : SL.EQ Try.prog 60 [.u64, .u64, .i64, .i64, .u64, .u64, .u64, .u64, .u64, .u64, .u64, .u64, .u64, .u64] := ⟨by kernel_rfl, by kernel_rfl, SL.AG.mk (by kernel_rfl)⟩
theorem eq61 : SL.EQ Try.prog 61 [.u64, .u64, .i64, .i64, .u64, .u64, .u64, .u64, .u64, .u64, .u64, .u64, .u64, .u64] := ⟨by kernel_rfl, by kernel_rfl, SL.AG.mk (by kernel_rfl)⟩
theorem eq70 : SL.EQ Try.prog 70 [.u64, .u64, .u64, .u64, .u64, .u64, .u64, .u64, .u64, .u64, .i64, .i64, .i64, .i64, .i64, .i64] := ⟨by kernel_rfl, by kernel_rfl, SL.AG.mk (by kernel_rfl)⟩
theorem eq71 : SL.EQ Try.prog 71 [.u64, .u64, .u64, .u64, .u64, .u64, .u64, .u64, .u64, .u64, .i64, .i64, .i64, .i64, .i64, .i64] := ⟨by kernel_rfl, by kernel_rfl, SL.AG.mk (by kernel_rfl)⟩
theorem bd26_0_1 (x0 : Int) (x1 : Int) : Try.prog.built 26 [(0, .int .u64 x0), (1, .int .u64 x1)] = some ([(.int .u64 x0), (.int .u64 x1)] : List Value).toArray := by kernel_rfl
theorem bd26  : Try.prog.built 26 [] = some ([.int .u64 0, .int .u64 0] : List Value).toArray := by kernel_rfl
theorem bd28_0_1_2_3_4_5_6 (x0 : Int) (x1p : Option Addr) (x1l x1c : Nat) (x2p : Option Addr) (x2l x2c : Nat) (x30 x31 : Int) (x4 : Int) (x5 : Int) (x6 : Int) : Try.prog.built 28 [(0, .int .i64 x0), (1, .slice x1p x1l x1c), (2, .slice x2p x2l x2c), (3, .agg #[.int .u64 x30, .int .u64 x31]), (4, .int .i64 x4), (5, .int .i64 x5), (6, .int .i64 x6)] = some ([(.int .i64 x0), (.slice x1p x1l x1c), (.slice x2p x2l x2c), (.int .u64 x30), (.int .u64 x31), (.int .i64 x4), (.int .i64 x5), (.int .i64 x6)] : List Value).toArray := by kernel_rfl
theorem bd28  : Try.prog.built 28 [] = some ([.int .i64 0, .slice none 0 0, .slice none 0 0, .int .u64 0, .int .u64 0, .int .i64 0, .int .i64 0, .int .i64 0] : List Value).toArray := by kernel_rfl
theorem bd28_0 (x0 : Int) : Try.prog.built 28 [(0, .int .i64 x0)] = some ([(.int .i64 x0), .slice none 0 0, .slice none 0 0, .int .u64 0, .int .u64 0, .int .i64 0, .int .i64 0, .int .i64 0] : List Value).toArray := by kernel_rfl
theorem bd59_0_1_2 (x00 x01 : Int) (x1 : Int) (x2 : Int) : Try.prog.built 59 [(0, .agg #[.int .u64 x00, .int .u64 x01]), (1, .int .i64 x1), (2, .int .i64 x2)] = some ([(.int .u64 x00), (.int .u64 x01), (.int .i64 x1), (.int .i64 x2), .int .u64 0, .int .u64 0, .int .u64 0, .int .u64 0, .int .u64 0, .int .u64 0, .int .u64 0, .int .u64 0, .int .i64 0, .int .i64 0, .int .u8 0, .int .u8 0, .int .u8 0, .int .u8 0, .int .u8 0, .int .u8 0, .int .u8 0, .int .u8 0, .int .u8 0, .int .u8 0, .int .u8 0, .int .u8 0, .int .u8 0, .int .u8 0, .int .u8 0, .int .u8 0, .int .u8 0, .int .u8 0, .int .u8 0, .int .u8 0, .int .u8 0, .int .u8 0, .int .u8 0, .int .u8 0, .int .u8 0, .int .u8 0, .int .u8 0, .int .u8 0, .int .u8 0, .int .u8 0, .int .u8 0, .int .u8 0] : List Value).toArray := by kernel_rfl
theorem bd71_0_1_2_3_4_5_6_7 (x00 x01 : Int) (x10 x11 : Int) (x20 x21 : Int) (x30 x31 : Int) (x40 x41 : Int) (x5 : Int) (x6 : Int) (x7 : Int) : Try.prog.built 71 [(0, .agg #[.int .u64 x00, .int .u64 x01]), (1, .agg #[.int .u64 x10, .int .u64 x11]), (2, .agg #[.int .u64 x20, .int .u64 x21]), (3, .agg #[.int .u64 x30, .int .u64 x31]), (4, .agg #[.int .u64 x40, .int .u64 x41]), (5, .int .i64 x5), (6, .int .i64 x6), (7, .int .i64 x7)] = some ([(.int .u64 x00), (.int .u64 x01), (.int .u64 x10), (.int .u64 x11), (.int .u64 x20), (.int .u64 x21), (.int .u64 x30), (.int .u64 x31), (.int .u64 x40), (.int .u64 x41), (.int .i64 x5), (.int .i64 x6), (.int .i64 x7), .int .i64 0, .int .i64 0, .int .i64 0] : List Value).toArray := by kernel_rfl
theorem bd78_0 (x0p : Option Addr) (x0l x0c : Nat) : Try.prog.built 78 [(0, .slice x0p x0l x0c)] = some ([(.slice x0p x0l x0c), .bool false] : List Value).toArray := by kernel_rfl
theorem bd61_0_1_2_3 (x00 x01 : Int) (x1 : Int) (x2 : Int) (x30 x31 : Int) : Try.prog.built 61 [(0, .agg #[.int .u64 x00, .int .u64 x01]), (1, .int .i64 x1), (2, .int .i64 x2), (3, .agg #[.int .u64 x30, .int .u64 x31])] = some ([(.int .u64 x00), (.int .u64 x01), (.int .i64 x1), (.int .i64 x2), (.int .u64 x30), (.int .u64 x31), .int .u64 0, .int .u64 0, .int .u64 0, .int .u64 0, .int .u64 0, .int .u64 0, .int .u64 0, .int .u64 0] : List Value).toArray := by kernel_rfl
theorem bd26_1 (x1 : Int) : Try.prog.built 26 [(1, .int .u64 x1)] = some ([.int .u64 0, (.int .u64 x1)] : List Value).toArray := by kernel_rfl
theorem mixed : Try.prog.follows .mixedOrders = true := by kernel_rfl
end Go.Proofs.Ytpcjjchanjdkaaa.T
