/- The rows of the types that the walks meet, each asked of the kernel. -/
import Derived.Test.YtejbbpofamfhiaaProg
import Derived.Test.YtejbbpofamfhiaaEq
import Derived.KernelRfl
namespace Go.Proofs.Ytejbbpofamfhiaa.T
open Go
theorem un2 : Try.prog.underlying 2 = some (.int .i64) := by kernel_rfl
theorem ag2 : SL.AG Try.prog 2 false := SL.AG.mk (by kernel_rfl)
theorem sz2 : SL.SZ Try.prog 2 1 := SL.SZ.mk (by kernel_rfl)
theorem co2 : Try.prog.cellsOf 2 = 1 := by kernel_rfl
theorem ti2 : SL.TI Try.prog 2 1 8 ([Value.int .i64 0]) := SL.TI.mk (by kernel_rfl)
theorem un3 : Try.prog.underlying 3 = some (.int .i64) := by kernel_rfl
theorem ag3 : SL.AG Try.prog 3 false := SL.AG.mk (by kernel_rfl)
theorem sz3 : SL.SZ Try.prog 3 1 := SL.SZ.mk (by kernel_rfl)
theorem co3 : Try.prog.cellsOf 3 = 1 := by kernel_rfl
theorem ti3 : SL.TI Try.prog 3 1 8 ([Value.int .i64 0]) := SL.TI.mk (by kernel_rfl)
theorem un4 : Try.prog.underlying 4 = some (.bool) := by kernel_rfl
theorem ag4 : SL.AG Try.prog 4 false := SL.AG.mk (by kernel_rfl)
theorem sz4 : SL.SZ Try.prog 4 1 := SL.SZ.mk (by kernel_rfl)
theorem co4 : Try.prog.cellsOf 4 = 1 := by kernel_rfl
theorem ti4 : SL.TI Try.prog 4 1 1 ([Value.bool false]) := SL.TI.mk (by kernel_rfl)
theorem un5 : Try.prog.underlying 5 = some (.int .u8) := by kernel_rfl
theorem ag5 : SL.AG Try.prog 5 false := SL.AG.mk (by kernel_rfl)
theorem sz5 : SL.SZ Try.prog 5 1 := SL.SZ.mk (by kernel_rfl)
theorem co5 : Try.prog.cellsOf 5 = 1 := by kernel_rfl
theorem ti5 : SL.TI Try.prog 5 1 1 ([Value.int .u8 0]) := SL.TI.mk (by kernel_rfl)
theorem un9 : Try.prog.underlying 9 = some (.string) := by kernel_rfl
theorem ag9 : SL.AG Try.prog 9 false := SL.AG.mk (by kernel_rfl)
theorem sz9 : SL.SZ Try.prog 9 1 := SL.SZ.mk (by kernel_rfl)
theorem co9 : Try.prog.cellsOf 9 = 1 := by kernel_rfl
theorem ti9 : SL.TI Try.prog 9 1 16 ([Value.string ByteArray.empty]) := SL.TI.mk (by kernel_rfl)
theorem un12 : Try.prog.underlying 12 = some (.int .u64) := by kernel_rfl
theorem ag12 : SL.AG Try.prog 12 false := SL.AG.mk (by kernel_rfl)
theorem sz12 : SL.SZ Try.prog 12 1 := SL.SZ.mk (by kernel_rfl)
theorem co12 : Try.prog.cellsOf 12 = 1 := by kernel_rfl
theorem ti12 : SL.TI Try.prog 12 1 8 ([Value.int .u64 0]) := SL.TI.mk (by kernel_rfl)
theorem ag13 : SL.AG Try.prog 13 true := SL.AG.mk (by kernel_rfl)
theorem sz13 : SL.SZ Try.prog 13 2 := SL.SZ.mk (by kernel_rfl)
theorem co13 : Try.prog.cellsOf 13 = 2 := by kernel_rfl
theorem ti13 : SL.TI Try.prog 13 2 24 (([Value.string ByteArray.empty]) ++ ([Value.int .u64 0])) := SL.TI.mk (by kernel_rfl)
theorem fa13_0 : SL.FA Try.prog 13 0 0 1 := SL.FA.mk (by kernel_rfl)
theorem ft13_0 : SL.FT Try.prog 13 0 0 9 := SL.FT.mk (by kernel_rfl)
theorem fa13_1 : SL.FA Try.prog 13 1 1 1 := SL.FA.mk (by kernel_rfl)
theorem ft13_1 : SL.FT Try.prog 13 1 1 12 := SL.FT.mk (by kernel_rfl)
theorem un21 : Try.prog.underlying 21 = some (.int .i32) := by kernel_rfl
theorem ag21 : SL.AG Try.prog 21 false := SL.AG.mk (by kernel_rfl)
theorem sz21 : SL.SZ Try.prog 21 1 := SL.SZ.mk (by kernel_rfl)
theorem co21 : Try.prog.cellsOf 21 = 1 := by kernel_rfl
theorem ti21 : SL.TI Try.prog 21 1 4 ([Value.int .i32 0]) := SL.TI.mk (by kernel_rfl)
theorem un22 : Try.prog.underlying 22 = some (.slice 29) := by kernel_rfl
theorem ag22 : SL.AG Try.prog 22 false := SL.AG.mk (by kernel_rfl)
theorem sz22 : SL.SZ Try.prog 22 1 := SL.SZ.mk (by kernel_rfl)
theorem co22 : Try.prog.cellsOf 22 = 1 := by kernel_rfl
theorem ti22 : SL.TI Try.prog 22 1 24 ([Value.slice none 0 0]) := SL.TI.mk (by kernel_rfl)
theorem un23 : Try.prog.underlying 23 = some (.int .u64) := by kernel_rfl
theorem ag23 : SL.AG Try.prog 23 false := SL.AG.mk (by kernel_rfl)
theorem sz23 : SL.SZ Try.prog 23 1 := SL.SZ.mk (by kernel_rfl)
theorem co23 : Try.prog.cellsOf 23 = 1 := by kernel_rfl
theorem ti23 : SL.TI Try.prog 23 1 8 ([Value.int .u64 0]) := SL.TI.mk (by kernel_rfl)
theorem un25 : Try.prog.underlying 25 = some (.pointer 76) := by kernel_rfl
theorem ag25 : SL.AG Try.prog 25 false := SL.AG.mk (by kernel_rfl)
theorem sz25 : SL.SZ Try.prog 25 1 := SL.SZ.mk (by kernel_rfl)
theorem co25 : Try.prog.cellsOf 25 = 1 := by kernel_rfl
theorem ti25 : SL.TI Try.prog 25 1 8 ([Value.pointer none]) := SL.TI.mk (by kernel_rfl)
theorem un27 : Try.prog.underlying 27 = some (.slice 5) := by kernel_rfl
theorem ag27 : SL.AG Try.prog 27 false := SL.AG.mk (by kernel_rfl)
theorem sz27 : SL.SZ Try.prog 27 1 := SL.SZ.mk (by kernel_rfl)
theorem co27 : Try.prog.cellsOf 27 = 1 := by kernel_rfl
theorem ti27 : SL.TI Try.prog 27 1 24 ([Value.slice none 0 0]) := SL.TI.mk (by kernel_rfl)
theorem ag28 : SL.AG Try.prog 28 true := SL.AG.mk (by kernel_rfl)
theorem sz28 : SL.SZ Try.prog 28 6 := SL.SZ.mk (by kernel_rfl)
theorem co28 : Try.prog.cellsOf 28 = 6 := by kernel_rfl
theorem ti28 : SL.TI Try.prog 28 6 64 (([Value.int .i64 0]) ++ ([Value.int .i64 0]) ++ ([Value.slice none 0 0]) ++ ([Value.int .u64 0]) ++ ([Value.int .i64 0]) ++ ([Value.int .i64 0])) := SL.TI.mk (by kernel_rfl)
theorem fa28_0 : SL.FA Try.prog 28 0 0 1 := SL.FA.mk (by kernel_rfl)
theorem ft28_0 : SL.FT Try.prog 28 0 0 3 := SL.FT.mk (by kernel_rfl)
theorem fa28_1 : SL.FA Try.prog 28 1 1 1 := SL.FA.mk (by kernel_rfl)
theorem ft28_1 : SL.FT Try.prog 28 1 1 3 := SL.FT.mk (by kernel_rfl)
theorem fa28_2 : SL.FA Try.prog 28 2 2 1 := SL.FA.mk (by kernel_rfl)
theorem ft28_2 : SL.FT Try.prog 28 2 2 27 := SL.FT.mk (by kernel_rfl)
theorem fa28_3 : SL.FA Try.prog 28 3 3 1 := SL.FA.mk (by kernel_rfl)
theorem ft28_3 : SL.FT Try.prog 28 3 3 23 := SL.FT.mk (by kernel_rfl)
theorem fa28_4 : SL.FA Try.prog 28 4 4 1 := SL.FA.mk (by kernel_rfl)
theorem ft28_4 : SL.FT Try.prog 28 4 4 3 := SL.FT.mk (by kernel_rfl)
theorem fa28_5 : SL.FA Try.prog 28 5 5 1 := SL.FA.mk (by kernel_rfl)
theorem ft28_5 : SL.FT Try.prog 28 5 5 3 := SL.FT.mk (by kernel_rfl)
theorem ag29 : SL.AG Try.prog 29 true := SL.AG.mk (by kernel_rfl)
theorem sz29 : SL.SZ Try.prog 29 6 := SL.SZ.mk (by kernel_rfl)
theorem co29 : Try.prog.cellsOf 29 = 6 := by kernel_rfl
theorem ti29 : SL.TI Try.prog 29 6 64 (([Value.int .i64 0]) ++ ([Value.int .i64 0]) ++ ([Value.slice none 0 0]) ++ ([Value.int .u64 0]) ++ ([Value.int .i64 0]) ++ ([Value.int .i64 0])) := SL.TI.mk (by kernel_rfl)
theorem fa29_0 : SL.FA Try.prog 29 0 0 1 := SL.FA.mk (by kernel_rfl)
theorem ft29_0 : SL.FT Try.prog 29 0 0 3 := SL.FT.mk (by kernel_rfl)
theorem fa29_1 : SL.FA Try.prog 29 1 1 1 := SL.FA.mk (by kernel_rfl)
theorem ft29_1 : SL.FT Try.prog 29 1 1 3 := SL.FT.mk (by kernel_rfl)
theorem fa29_2 : SL.FA Try.prog 29 2 2 1 := SL.FA.mk (by kernel_rfl)
theorem ft29_2 : SL.FT Try.prog 29 2 2 27 := SL.FT.mk (by kernel_rfl)
theorem fa29_3 : SL.FA Try.prog 29 3 3 1 := SL.FA.mk (by kernel_rfl)
theorem ft29_3 : SL.FT Try.prog 29 3 3 23 := SL.FT.mk (by kernel_rfl)
theorem fa29_4 : SL.FA Try.prog 29 4 4 1 := SL.FA.mk (by kernel_rfl)
theorem ft29_4 : SL.FT Try.prog 29 4 4 3 := SL.FT.mk (by kernel_rfl)
theorem fa29_5 : SL.FA Try.prog 29 5 5 1 := SL.FA.mk (by kernel_rfl)
theorem ft29_5 : SL.FT Try.prog 29 5 5 3 := SL.FT.mk (by kernel_rfl)
theorem un30 : Try.prog.underlying 30 = some (.int .i64) := by kernel_rfl
theorem ag30 : SL.AG Try.prog 30 false := SL.AG.mk (by kernel_rfl)
theorem sz30 : SL.SZ Try.prog 30 1 := SL.SZ.mk (by kernel_rfl)
theorem co30 : Try.prog.cellsOf 30 = 1 := by kernel_rfl
theorem ti30 : SL.TI Try.prog 30 1 8 ([Value.int .i64 0]) := SL.TI.mk (by kernel_rfl)
theorem un43 : Try.prog.underlying 43 = some (.array 64 5) := by kernel_rfl
theorem ag43 : SL.AG Try.prog 43 true := SL.AG.mk (by kernel_rfl)
theorem sz43 : SL.SZ Try.prog 43 64 := SL.SZ.mk (by kernel_rfl)
theorem co43 : Try.prog.cellsOf 43 = 64 := by kernel_rfl
theorem ti43 : SL.TI Try.prog 43 64 64 (List.replicate 64 (Value.int .u8 0)) := SL.TI.mk (by kernel_rfl)
theorem un44 : Try.prog.underlying 44 = some (.array 6 43) := by kernel_rfl
theorem ag44 : SL.AG Try.prog 44 true := SL.AG.mk (by kernel_rfl)
theorem sz44 : SL.SZ Try.prog 44 384 := SL.SZ.mk (by kernel_rfl)
theorem co44 : Try.prog.cellsOf 44 = 384 := by kernel_rfl
theorem ti44 : SL.TI Try.prog 44 384 384 ((List.replicate 6 (List.replicate 64 (Value.int .u8 0))).flatten) := SL.TI.mk (by kernel_rfl)
theorem un46 : Try.prog.underlying 46 = some (.int .u64) := by kernel_rfl
theorem ag46 : SL.AG Try.prog 46 false := SL.AG.mk (by kernel_rfl)
theorem sz46 : SL.SZ Try.prog 46 1 := SL.SZ.mk (by kernel_rfl)
theorem co46 : Try.prog.cellsOf 46 = 1 := by kernel_rfl
theorem ti46 : SL.TI Try.prog 46 1 8 ([Value.int .u64 0]) := SL.TI.mk (by kernel_rfl)
theorem un48 : Try.prog.underlying 48 = some (.slice 27) := by kernel_rfl
theorem ag48 : SL.AG Try.prog 48 false := SL.AG.mk (by kernel_rfl)
theorem sz48 : SL.SZ Try.prog 48 1 := SL.SZ.mk (by kernel_rfl)
theorem co48 : Try.prog.cellsOf 48 = 1 := by kernel_rfl
theorem ti48 : SL.TI Try.prog 48 1 24 ([Value.slice none 0 0]) := SL.TI.mk (by kernel_rfl)
theorem un49 : Try.prog.underlying 49 = some (.array 2 3) := by kernel_rfl
theorem ag49 : SL.AG Try.prog 49 true := SL.AG.mk (by kernel_rfl)
theorem sz49 : SL.SZ Try.prog 49 2 := SL.SZ.mk (by kernel_rfl)
theorem co49 : Try.prog.cellsOf 49 = 2 := by kernel_rfl
theorem ti49 : SL.TI Try.prog 49 2 16 (List.replicate 2 (Value.int .i64 0)) := SL.TI.mk (by kernel_rfl)
theorem un50 : Try.prog.underlying 50 = some (.pointer 83) := by kernel_rfl
theorem ag50 : SL.AG Try.prog 50 false := SL.AG.mk (by kernel_rfl)
theorem sz50 : SL.SZ Try.prog 50 1 := SL.SZ.mk (by kernel_rfl)
theorem co50 : Try.prog.cellsOf 50 = 1 := by kernel_rfl
theorem ti50 : SL.TI Try.prog 50 1 8 ([Value.pointer none]) := SL.TI.mk (by kernel_rfl)
theorem un57 : Try.prog.underlying 57 = some (.slice 59) := by kernel_rfl
theorem ag57 : SL.AG Try.prog 57 false := SL.AG.mk (by kernel_rfl)
theorem sz57 : SL.SZ Try.prog 57 1 := SL.SZ.mk (by kernel_rfl)
theorem co57 : Try.prog.cellsOf 57 = 1 := by kernel_rfl
theorem ti57 : SL.TI Try.prog 57 1 24 ([Value.slice none 0 0]) := SL.TI.mk (by kernel_rfl)
theorem ag58 : SL.AG Try.prog 58 true := SL.AG.mk (by kernel_rfl)
theorem sz58 : SL.SZ Try.prog 58 6 := SL.SZ.mk (by kernel_rfl)
theorem co58 : Try.prog.cellsOf 58 = 6 := by kernel_rfl
theorem ti58 : SL.TI Try.prog 58 6 64 (([Value.int .i64 0]) ++ ([Value.int .i64 0]) ++ ([Value.slice none 0 0]) ++ ([Value.int .u64 0]) ++ ([Value.int .i64 0]) ++ ([Value.int .i64 0])) := SL.TI.mk (by kernel_rfl)
theorem fa58_0 : SL.FA Try.prog 58 0 0 1 := SL.FA.mk (by kernel_rfl)
theorem ft58_0 : SL.FT Try.prog 58 0 0 3 := SL.FT.mk (by kernel_rfl)
theorem fa58_1 : SL.FA Try.prog 58 1 1 1 := SL.FA.mk (by kernel_rfl)
theorem ft58_1 : SL.FT Try.prog 58 1 1 3 := SL.FT.mk (by kernel_rfl)
theorem fa58_2 : SL.FA Try.prog 58 2 2 1 := SL.FA.mk (by kernel_rfl)
theorem ft58_2 : SL.FT Try.prog 58 2 2 27 := SL.FT.mk (by kernel_rfl)
theorem fa58_3 : SL.FA Try.prog 58 3 3 1 := SL.FA.mk (by kernel_rfl)
theorem ft58_3 : SL.FT Try.prog 58 3 3 23 := SL.FT.mk (by kernel_rfl)
theorem fa58_4 : SL.FA Try.prog 58 4 4 1 := SL.FA.mk (by kernel_rfl)
theorem ft58_4 : SL.FT Try.prog 58 4 4 3 := SL.FT.mk (by kernel_rfl)
theorem fa58_5 : SL.FA Try.prog 58 5 5 1 := SL.FA.mk (by kernel_rfl)
theorem ft58_5 : SL.FT Try.prog 58 5 5 3 := SL.FT.mk (by kernel_rfl)
theorem ag59 : SL.AG Try.prog 59 true := SL.AG.mk (by kernel_rfl)
theorem sz59 : SL.SZ Try.prog 59 6 := SL.SZ.mk (by kernel_rfl)
theorem co59 : Try.prog.cellsOf 59 = 6 := by kernel_rfl
theorem ti59 : SL.TI Try.prog 59 6 64 (([Value.int .i64 0]) ++ ([Value.int .i64 0]) ++ ([Value.slice none 0 0]) ++ ([Value.int .u64 0]) ++ ([Value.int .i64 0]) ++ ([Value.int .i64 0])) := SL.TI.mk (by kernel_rfl)
theorem fa59_0 : SL.FA Try.prog 59 0 0 1 := SL.FA.mk (by kernel_rfl)
theorem ft59_0 : SL.FT Try.prog 59 0 0 3 := SL.FT.mk (by kernel_rfl)
theorem fa59_1 : SL.FA Try.prog 59 1 1 1 := SL.FA.mk (by kernel_rfl)
theorem ft59_1 : SL.FT Try.prog 59 1 1 3 := SL.FT.mk (by kernel_rfl)
theorem fa59_2 : SL.FA Try.prog 59 2 2 1 := SL.FA.mk (by kernel_rfl)
theorem ft59_2 : SL.FT Try.prog 59 2 2 27 := SL.FT.mk (by kernel_rfl)
theorem fa59_3 : SL.FA Try.prog 59 3 3 1 := SL.FA.mk (by kernel_rfl)
theorem ft59_3 : SL.FT Try.prog 59 3 3 23 := SL.FT.mk (by kernel_rfl)
theorem fa59_4 : SL.FA Try.prog 59 4 4 1 := SL.FA.mk (by kernel_rfl)
theorem ft59_4 : SL.FT Try.prog 59 4 4 3 := SL.FT.mk (by kernel_rfl)
theorem fa59_5 : SL.FA Try.prog 59 5 5 1 := SL.FA.mk (by kernel_rfl)
theorem ft59_5 : SL.FT Try.prog 59 5 5 3 := SL.FT.mk (by kernel_rfl)
theorem un63 : Try.prog.underlying 63 = some (.slice 3) := by kernel_rfl
theorem ag63 : SL.AG Try.prog 63 false := SL.AG.mk (by kernel_rfl)
theorem sz63 : SL.SZ Try.prog 63 1 := SL.SZ.mk (by kernel_rfl)
theorem co63 : Try.prog.cellsOf 63 = 1 := by kernel_rfl
theorem ti63 : SL.TI Try.prog 63 1 24 ([Value.slice none 0 0]) := SL.TI.mk (by kernel_rfl)
theorem un65 : Try.prog.underlying 65 = some (.array 4 3) := by kernel_rfl
theorem ag65 : SL.AG Try.prog 65 true := SL.AG.mk (by kernel_rfl)
theorem sz65 : SL.SZ Try.prog 65 4 := SL.SZ.mk (by kernel_rfl)
theorem co65 : Try.prog.cellsOf 65 = 4 := by kernel_rfl
theorem ti65 : SL.TI Try.prog 65 4 32 (List.replicate 4 (Value.int .i64 0)) := SL.TI.mk (by kernel_rfl)
theorem ag66 : SL.AG Try.prog 66 true := SL.AG.mk (by kernel_rfl)
theorem sz66 : SL.SZ Try.prog 66 1 := SL.SZ.mk (by kernel_rfl)
theorem co66 : Try.prog.cellsOf 66 = 1 := by kernel_rfl
theorem ti66 : SL.TI Try.prog 66 1 24 (([Value.slice none 0 0])) := SL.TI.mk (by kernel_rfl)
theorem fa66_0 : SL.FA Try.prog 66 0 0 1 := SL.FA.mk (by kernel_rfl)
theorem ft66_0 : SL.FT Try.prog 66 0 0 27 := SL.FT.mk (by kernel_rfl)
theorem ag67 : SL.AG Try.prog 67 true := SL.AG.mk (by kernel_rfl)
theorem sz67 : SL.SZ Try.prog 67 1 := SL.SZ.mk (by kernel_rfl)
theorem co67 : Try.prog.cellsOf 67 = 1 := by kernel_rfl
theorem ti67 : SL.TI Try.prog 67 1 24 (([Value.slice none 0 0])) := SL.TI.mk (by kernel_rfl)
theorem fa67_0 : SL.FA Try.prog 67 0 0 1 := SL.FA.mk (by kernel_rfl)
theorem ft67_0 : SL.FT Try.prog 67 0 0 27 := SL.FT.mk (by kernel_rfl)
theorem un68 : Try.prog.underlying 68 = some (.pointer 67) := by kernel_rfl
theorem ag68 : SL.AG Try.prog 68 false := SL.AG.mk (by kernel_rfl)
theorem sz68 : SL.SZ Try.prog 68 1 := SL.SZ.mk (by kernel_rfl)
theorem co68 : Try.prog.cellsOf 68 = 1 := by kernel_rfl
theorem ti68 : SL.TI Try.prog 68 1 8 ([Value.pointer none]) := SL.TI.mk (by kernel_rfl)
theorem un73 : Try.prog.underlying 73 = some (.slice 77) := by kernel_rfl
theorem ag73 : SL.AG Try.prog 73 false := SL.AG.mk (by kernel_rfl)
theorem sz73 : SL.SZ Try.prog 73 1 := SL.SZ.mk (by kernel_rfl)
theorem co73 : Try.prog.cellsOf 73 = 1 := by kernel_rfl
theorem ti73 : SL.TI Try.prog 73 1 24 ([Value.slice none 0 0]) := SL.TI.mk (by kernel_rfl)
theorem un74 : Try.prog.underlying 74 = some (.slice 79) := by kernel_rfl
theorem ag74 : SL.AG Try.prog 74 false := SL.AG.mk (by kernel_rfl)
theorem sz74 : SL.SZ Try.prog 74 1 := SL.SZ.mk (by kernel_rfl)
theorem co74 : Try.prog.cellsOf 74 = 1 := by kernel_rfl
theorem ti74 : SL.TI Try.prog 74 1 24 ([Value.slice none 0 0]) := SL.TI.mk (by kernel_rfl)
theorem ag75 : SL.AG Try.prog 75 true := SL.AG.mk (by kernel_rfl)
theorem sz75 : SL.SZ Try.prog 75 5 := SL.SZ.mk (by kernel_rfl)
theorem co75 : Try.prog.cellsOf 75 = 5 := by kernel_rfl
theorem ti75 : SL.TI Try.prog 75 5 72 (([Value.slice none 0 0]) ++ ([Value.slice none 0 0]) ++ ([Value.bool false]) ++ ([Value.int .i64 0]) ++ ([Value.int .i64 0])) := SL.TI.mk (by kernel_rfl)
theorem fa75_0 : SL.FA Try.prog 75 0 0 1 := SL.FA.mk (by kernel_rfl)
theorem ft75_0 : SL.FT Try.prog 75 0 0 73 := SL.FT.mk (by kernel_rfl)
theorem fa75_1 : SL.FA Try.prog 75 1 1 1 := SL.FA.mk (by kernel_rfl)
theorem ft75_1 : SL.FT Try.prog 75 1 1 74 := SL.FT.mk (by kernel_rfl)
theorem fa75_2 : SL.FA Try.prog 75 2 2 1 := SL.FA.mk (by kernel_rfl)
theorem ft75_2 : SL.FT Try.prog 75 2 2 4 := SL.FT.mk (by kernel_rfl)
theorem fa75_3 : SL.FA Try.prog 75 3 3 1 := SL.FA.mk (by kernel_rfl)
theorem ft75_3 : SL.FT Try.prog 75 3 3 3 := SL.FT.mk (by kernel_rfl)
theorem fa75_4 : SL.FA Try.prog 75 4 4 1 := SL.FA.mk (by kernel_rfl)
theorem ft75_4 : SL.FT Try.prog 75 4 4 3 := SL.FT.mk (by kernel_rfl)
theorem ag76 : SL.AG Try.prog 76 true := SL.AG.mk (by kernel_rfl)
theorem sz76 : SL.SZ Try.prog 76 5 := SL.SZ.mk (by kernel_rfl)
theorem co76 : Try.prog.cellsOf 76 = 5 := by kernel_rfl
theorem ti76 : SL.TI Try.prog 76 5 72 (([Value.slice none 0 0]) ++ ([Value.slice none 0 0]) ++ ([Value.bool false]) ++ ([Value.int .i64 0]) ++ ([Value.int .i64 0])) := SL.TI.mk (by kernel_rfl)
theorem fa76_0 : SL.FA Try.prog 76 0 0 1 := SL.FA.mk (by kernel_rfl)
theorem ft76_0 : SL.FT Try.prog 76 0 0 73 := SL.FT.mk (by kernel_rfl)
theorem fa76_1 : SL.FA Try.prog 76 1 1 1 := SL.FA.mk (by kernel_rfl)
theorem ft76_1 : SL.FT Try.prog 76 1 1 74 := SL.FT.mk (by kernel_rfl)
theorem fa76_2 : SL.FA Try.prog 76 2 2 1 := SL.FA.mk (by kernel_rfl)
theorem ft76_2 : SL.FT Try.prog 76 2 2 4 := SL.FT.mk (by kernel_rfl)
theorem fa76_3 : SL.FA Try.prog 76 3 3 1 := SL.FA.mk (by kernel_rfl)
theorem ft76_3 : SL.FT Try.prog 76 3 3 3 := SL.FT.mk (by kernel_rfl)
theorem fa76_4 : SL.FA Try.prog 76 4 4 1 := SL.FA.mk (by kernel_rfl)
theorem ft76_4 : SL.FT Try.prog 76 4 4 3 := SL.FT.mk (by kernel_rfl)
theorem un77 : Try.prog.underlying 77 = some (.array 64 5) := by kernel_rfl
theorem ag77 : SL.AG Try.prog 77 true := SL.AG.mk (by kernel_rfl)
theorem sz77 : SL.SZ Try.prog 77 64 := SL.SZ.mk (by kernel_rfl)
theorem co77 : Try.prog.cellsOf 77 = 64 := by kernel_rfl
theorem ti77 : SL.TI Try.prog 77 64 64 (List.replicate 64 (Value.int .u8 0)) := SL.TI.mk (by kernel_rfl)
theorem ag78 : SL.AG Try.prog 78 true := SL.AG.mk (by kernel_rfl)
theorem sz78 : SL.SZ Try.prog 78 65 := SL.SZ.mk (by kernel_rfl)
theorem co78 : Try.prog.cellsOf 78 = 65 := by kernel_rfl
theorem ti78 : SL.TI Try.prog 78 65 72 (([Value.int .i64 0]) ++ (List.replicate 64 (Value.int .u8 0))) := SL.TI.mk (by kernel_rfl)
theorem fa78_0 : SL.FA Try.prog 78 0 0 1 := SL.FA.mk (by kernel_rfl)
theorem ft78_0 : SL.FT Try.prog 78 0 0 3 := SL.FT.mk (by kernel_rfl)
theorem fa78_1 : SL.FA Try.prog 78 1 1 64 := SL.FA.mk (by kernel_rfl)
theorem ft78_1 : SL.FT Try.prog 78 1 1 77 := SL.FT.mk (by kernel_rfl)
theorem ag79 : SL.AG Try.prog 79 true := SL.AG.mk (by kernel_rfl)
theorem sz79 : SL.SZ Try.prog 79 65 := SL.SZ.mk (by kernel_rfl)
theorem co79 : Try.prog.cellsOf 79 = 65 := by kernel_rfl
theorem ti79 : SL.TI Try.prog 79 65 72 (([Value.int .i64 0]) ++ (List.replicate 64 (Value.int .u8 0))) := SL.TI.mk (by kernel_rfl)
theorem fa79_0 : SL.FA Try.prog 79 0 0 1 := SL.FA.mk (by kernel_rfl)
theorem ft79_0 : SL.FT Try.prog 79 0 0 3 := SL.FT.mk (by kernel_rfl)
theorem fa79_1 : SL.FA Try.prog 79 1 1 64 := SL.FA.mk (by kernel_rfl)
theorem ft79_1 : SL.FT Try.prog 79 1 1 77 := SL.FT.mk (by kernel_rfl)
theorem un80 : Try.prog.underlying 80 = some (.pointer 88) := by kernel_rfl
theorem ag80 : SL.AG Try.prog 80 false := SL.AG.mk (by kernel_rfl)
theorem sz80 : SL.SZ Try.prog 80 1 := SL.SZ.mk (by kernel_rfl)
theorem co80 : Try.prog.cellsOf 80 = 1 := by kernel_rfl
theorem ti80 : SL.TI Try.prog 80 1 8 ([Value.pointer none]) := SL.TI.mk (by kernel_rfl)
theorem ag82 : SL.AG Try.prog 82 true := SL.AG.mk (by kernel_rfl)
theorem sz82 : SL.SZ Try.prog 82 4 := SL.SZ.mk (by kernel_rfl)
theorem co82 : Try.prog.cellsOf 82 = 4 := by kernel_rfl
theorem ti82 : SL.TI Try.prog 82 4 32 (([Value.pointer none]) ++ ([Value.int .i64 0]) ++ ([Value.int .i64 0]) ++ ([Value.int .i64 0])) := SL.TI.mk (by kernel_rfl)
theorem fa82_0 : SL.FA Try.prog 82 0 0 1 := SL.FA.mk (by kernel_rfl)
theorem ft82_0 : SL.FT Try.prog 82 0 0 25 := SL.FT.mk (by kernel_rfl)
theorem fa82_1 : SL.FA Try.prog 82 1 1 1 := SL.FA.mk (by kernel_rfl)
theorem ft82_1 : SL.FT Try.prog 82 1 1 3 := SL.FT.mk (by kernel_rfl)
theorem fa82_2 : SL.FA Try.prog 82 2 2 1 := SL.FA.mk (by kernel_rfl)
theorem ft82_2 : SL.FT Try.prog 82 2 2 3 := SL.FT.mk (by kernel_rfl)
theorem fa82_3 : SL.FA Try.prog 82 3 3 1 := SL.FA.mk (by kernel_rfl)
theorem ft82_3 : SL.FT Try.prog 82 3 3 3 := SL.FT.mk (by kernel_rfl)
theorem ag83 : SL.AG Try.prog 83 true := SL.AG.mk (by kernel_rfl)
theorem sz83 : SL.SZ Try.prog 83 4 := SL.SZ.mk (by kernel_rfl)
theorem co83 : Try.prog.cellsOf 83 = 4 := by kernel_rfl
theorem ti83 : SL.TI Try.prog 83 4 32 (([Value.pointer none]) ++ ([Value.int .i64 0]) ++ ([Value.int .i64 0]) ++ ([Value.int .i64 0])) := SL.TI.mk (by kernel_rfl)
theorem fa83_0 : SL.FA Try.prog 83 0 0 1 := SL.FA.mk (by kernel_rfl)
theorem ft83_0 : SL.FT Try.prog 83 0 0 25 := SL.FT.mk (by kernel_rfl)
theorem fa83_1 : SL.FA Try.prog 83 1 1 1 := SL.FA.mk (by kernel_rfl)
theorem ft83_1 : SL.FT Try.prog 83 1 1 3 := SL.FT.mk (by kernel_rfl)
theorem fa83_2 : SL.FA Try.prog 83 2 2 1 := SL.FA.mk (by kernel_rfl)
theorem ft83_2 : SL.FT Try.prog 83 2 2 3 := SL.FT.mk (by kernel_rfl)
theorem fa83_3 : SL.FA Try.prog 83 3 3 1 := SL.FA.mk (by kernel_rfl)
theorem ft83_3 : SL.FT Try.prog 83 3 3 3 := SL.FT.mk (by kernel_rfl)
theorem ag87 : SL.AG Try.prog 87 true := SL.AG.mk (by kernel_rfl)
theorem sz87 : SL.SZ Try.prog 87 2 := SL.SZ.mk (by kernel_rfl)
theorem co87 : Try.prog.cellsOf 87 = 2 := by kernel_rfl
theorem ti87 : SL.TI Try.prog 87 2 32 (([Value.slice none 0 0]) ++ ([Value.bool false])) := SL.TI.mk (by kernel_rfl)
theorem fa87_0 : SL.FA Try.prog 87 0 0 1 := SL.FA.mk (by kernel_rfl)
theorem ft87_0 : SL.FT Try.prog 87 0 0 27 := SL.FT.mk (by kernel_rfl)
theorem fa87_1 : SL.FA Try.prog 87 1 1 1 := SL.FA.mk (by kernel_rfl)
theorem ft87_1 : SL.FT Try.prog 87 1 1 4 := SL.FT.mk (by kernel_rfl)
theorem ag88 : SL.AG Try.prog 88 true := SL.AG.mk (by kernel_rfl)
theorem sz88 : SL.SZ Try.prog 88 2 := SL.SZ.mk (by kernel_rfl)
theorem co88 : Try.prog.cellsOf 88 = 2 := by kernel_rfl
theorem ti88 : SL.TI Try.prog 88 2 32 (([Value.slice none 0 0]) ++ ([Value.bool false])) := SL.TI.mk (by kernel_rfl)
theorem fa88_0 : SL.FA Try.prog 88 0 0 1 := SL.FA.mk (by kernel_rfl)
theorem ft88_0 : SL.FT Try.prog 88 0 0 27 := SL.FT.mk (by kernel_rfl)
theorem fa88_1 : SL.FA Try.prog 88 1 1 1 := SL.FA.mk (by kernel_rfl)
theorem ft88_1 : SL.FT Try.prog 88 1 1 4 := SL.FT.mk (by kernel_rfl)
theorem un98 : Try.prog.underlying 98 = some (.int .u32) := by kernel_rfl
theorem ag98 : SL.AG Try.prog 98 false := SL.AG.mk (by kernel_rfl)
theorem sz98 : SL.SZ Try.prog 98 1 := SL.SZ.mk (by kernel_rfl)
theorem co98 : Try.prog.cellsOf 98 = 1 := by kernel_rfl
theorem ti98 : SL.TI Try.prog 98 1 4 ([Value.int .u32 0]) := SL.TI.mk (by kernel_rfl)
theorem un102 : Try.prog.underlying 102 = some (.pointer 5) := by kernel_rfl
theorem ag102 : SL.AG Try.prog 102 false := SL.AG.mk (by kernel_rfl)
theorem sz102 : SL.SZ Try.prog 102 1 := SL.SZ.mk (by kernel_rfl)
theorem co102 : Try.prog.cellsOf 102 = 1 := by kernel_rfl
theorem ti102 : SL.TI Try.prog 102 1 8 ([Value.pointer none]) := SL.TI.mk (by kernel_rfl)
theorem eq43 : SL.EQ Try.prog 43 [.u8, .u8, .u8, .u8, .u8, .u8, .u8, .u8, .u8, .u8, .u8, .u8, .u8, .u8, .u8, .u8, .u8, .u8, .u8, .u8, .u8, .u8, .u8, .u8, .u8, .u8, .u8, .u8, .u8, .u8, .u8, .u8, .u8, .u8, .u8, .u8, .u8, .u8, .u8, .u8, .u8, .u8, .u8, .u8, .u8, .u8, .u8, .u8, .u8, .u8, .u8, .u8, .u8, .u8, .u8, .u8, .u8, .u8, .u8, .u8, .u8, .u8, .u8, .u8] := ⟨by kernel_rfl, by kernel_rfl, SL.AG.mk (by kernel_rfl)⟩
theorem eq44 : SL.EQ Try.prog 44 [.u8, .u8, .u8, .u8, .u8, .u8, .u8, .u8, .u8, .u8, .u8, .u8, .u8, .u8, .u8, .u8, .u8, .u8, .u8, .u8, .u8, .u8, .u8, .u8, .u8, .u8, .u8, .u8, .u8, .u8, .u8, .u8, .u8, .u8, .u8, .u8, .u8, .u8, .u8, .u8, .u8, .u8, .u8, .u8, .u8, .u8, .u8, .u8, .u8, .u8, .u8, .u8, .u8, .u8, .u8, .u8, .u8, .u8, .u8, .u8, .u8, .u8, .u8, .u8, .u8, .u8, .u8, .u8, .u8, .u8, .u8, .u8, .u8, .u8, .u8, .u8, .u8, .u8, .u8, .u8, .u8, .u8, .u8, .u8, .u8, .u8, .u8, .u8, .u8, .u8, .u8, .u8, .u8, .u8, .u8, .u8, .u8, .u8, .u8, .u8, .u8, .u8, .u8, .u8, .u8, .u8, .u8, .u8, .u8, .u8, .u8, .u8, .u8, .u8, .u8, .u8, .u8, .u8, .u8, .u8, .u8, .u8, .u8, .u8, .u8, .u8, .u8, .u8, .u8, .u8, .u8, .u8, .u8, .u8, .u8, .u8, .u8, .u8, .u8, .u8, .u8, .u8, .u8, .u8, .u8, .u8, .u8, .u8, .u8, .u8, .u8, .u8, .u8, .u8, .u8, .u8, .u8, .u8, .u8, .u8, .u8, .u8, .u8, .u8, .u8, .u8, .u8, .u8, .u8, .u8, .u8, .u8, .u8, .u8, .u8, .u8, .u8, .u8, .u8, .u8, .u8, .u8, .u8, .u8, .u8, .u8, .u8, .u8, .u8, .u8, .u8, .u8, .u8, .u8, .u8, .u8, .u8, .u8, .u8, .u8, .u8, .u8, .u8, .u8, .u8, .u8, .u8, .u8, .u8, .u8, .u8, .u8, .u8, .u8, .u8, .u8, .u8, .u8, .u8, .u8, .u8, .u8, .u8, .u8, .u8, .u8, .u8, .u8, .u8, .u8, .u8, .u8, .u8, .u8, .u8, .u8, .u8, .u8, .u8, .u8, .u8, .u8, .u8, .u8, .u8, .u8, .u8, .u8, .u8, .u8, .u8, .u8, .u8, .u8, .u8, .u8, .u8, .u8, .u8, .u8, .u8, .u8, .u8, .u8, .u8, .u8, .u8, .u8, .u8, .u8, .u8, .u8, .u8, .u8, .u8, .u8, .u8, .u8, .u8, .u8, .u8, .u8, .u8, .u8, .u8, .u8, .u8, .u8, .u8, .u8, .u8, .u8, .u8, .u8, .u8, .u8, .u8, .u8, .u8, .u8, .u8, .u8, .u8, .u8, .u8, .u8, .u8, .u8, .u8, .u8, .u8, .u8, .u8, .u8, .u8, .u8, .u8, .u8, .u8, .u8, .u8, .u8, .u8, .u8, .u8, .u8, .u8, .u8, .u8, .u8, .u8, .u8, .u8, .u8, .u8, .u8, .u8, .u8, .u8, .u8, .u8, .u8, .u8, .u8, .u8, .u8, .u8, .u8, .u8, .u8, .u8, .u8, .u8, .u8, .u8, .u8, .u8, .u8, .u8, .u8, .u8, .u8, .u8, .u8, .u8, .u8, .u8, .u8, .u8, .u8, .u8, .u8, .u8, .u8, .u8, .u8, .u8, .u8, .u8, .u8, .u8, .u8, .u8, .u8] := ⟨by kernel_rfl, by kernel_rfl, SL.AG.mk (by kernel_rfl)⟩
theorem eq49 : SL.EQ Try.prog 49 [.i64, .i64] := ⟨by kernel_rfl, by kernel_rfl, SL.AG.mk (by kernel_rfl)⟩
theorem eq65 : SL.EQ Try.prog 65 [.i64, .i64, .i64, .i64] := ⟨by kernel_rfl, by kernel_rfl, SL.AG.mk (by kernel_rfl)⟩
theorem eq77 : SL.EQ Try.prog 77 [.u8, .u8, .u8, .u8, .u8, .u8, .u8, .u8, .u8, .u8, .u8, .u8, .u8, .u8, .u8, .u8, .u8, .u8, .u8, .u8, .u8, .u8, .u8, .u8, .u8, .u8, .u8, .u8, .u8, .u8, .u8, .u8, .u8, .u8, .u8, .u8, .u8, .u8, .u8, .u8, .u8, .u8, .u8, .u8, .u8, .u8, .u8, .u8, .u8, .u8, .u8, .u8, .u8, .u8, .u8, .u8, .u8, .u8, .u8, .u8, .u8, .u8, .u8, .u8] := ⟨by kernel_rfl, by kernel_rfl, SL.AG.mk (by kernel_rfl)⟩
theorem eq78 : SL.EQ Try.prog 78 [.i64, .u8, .u8, .u8, .u8, .u8, .u8, .u8, .u8, .u8, .u8, .u8, .u8, .u8, .u8, .u8, .u8, .u8, .u8, .u8, .u8, .u8, .u8, .u8, .u8, .u8, .u8, .u8, .u8, .u8, .u8, .u8, .u8, .u8, .u8, .u8, .u8, .u8, .u8, .u8, .u8, .u8, .u8, .u8, .u8, .u8, .u8, .u8, .u8, .u8, .u8, .u8, .u8, .u8, .u8, .u8, .u8, .u8, .u8, .u8, .u8, .u8, .u8, .u8, .u8] := ⟨by kernel_rfl, by kernel_rfl, SL.AG.mk (by kernel_rfl)⟩
theorem eq79 : SL.EQ Try.prog 79 [.i64, .u8, .u8, .u8, .u8, .u8, .u8, .u8, .u8, .u8, .u8, .u8, .u8, .u8, .u8, .u8, .u8, .u8, .u8, .u8, .u8, .u8, .u8, .u8, .u8, .u8, .u8, .u8, .u8, .u8, .u8, .u8, .u8, .u8, .u8, .u8, .u8, .u8, .u8, .u8, .u8, .u8, .u8, .u8, .u8, .u8, .u8, .u8, .u8, .u8, .u8, .u8, .u8, .u8, .u8, .u8, .u8, .u8, .u8, .u8, .u8, .u8, .u8, .u8, .u8] := ⟨by kernel_rfl, by kernel_rfl, SL.AG.mk (by kernel_rfl)⟩
theorem bd76_0 (x0p : Option Addr) (x0l x0c : Nat) : Try.prog.built 76 [(0, .slice x0p x0l x0c)] = some ([(.slice x0p x0l x0c), .slice none 0 0, .bool false, .int .i64 0, .int .i64 0] : List Value).toArray := by kernel_rfl
theorem bd79_0 (x0 : Int) : Try.prog.built 79 [(0, .int .i64 x0)] = some ([(.int .i64 x0), .int .u8 0, .int .u8 0, .int .u8 0, .int .u8 0, .int .u8 0, .int .u8 0, .int .u8 0, .int .u8 0, .int .u8 0, .int .u8 0, .int .u8 0, .int .u8 0, .int .u8 0, .int .u8 0, .int .u8 0, .int .u8 0, .int .u8 0, .int .u8 0, .int .u8 0, .int .u8 0, .int .u8 0, .int .u8 0, .int .u8 0, .int .u8 0, .int .u8 0, .int .u8 0, .int .u8 0, .int .u8 0, .int .u8 0, .int .u8 0, .int .u8 0, .int .u8 0, .int .u8 0, .int .u8 0, .int .u8 0, .int .u8 0, .int .u8 0, .int .u8 0, .int .u8 0, .int .u8 0, .int .u8 0, .int .u8 0, .int .u8 0, .int .u8 0, .int .u8 0, .int .u8 0, .int .u8 0, .int .u8 0, .int .u8 0, .int .u8 0, .int .u8 0, .int .u8 0, .int .u8 0, .int .u8 0, .int .u8 0, .int .u8 0, .int .u8 0, .int .u8 0, .int .u8 0, .int .u8 0, .int .u8 0, .int .u8 0, .int .u8 0, .int .u8 0] : List Value).toArray := by kernel_rfl
theorem bd83_0 (x0 : Option Addr) : Try.prog.built 83 [(0, .pointer x0)] = some ([(.pointer x0), .int .i64 0, .int .i64 0, .int .i64 0] : List Value).toArray := by kernel_rfl
theorem bd88_0 (x0p : Option Addr) (x0l x0c : Nat) : Try.prog.built 88 [(0, .slice x0p x0l x0c)] = some ([(.slice x0p x0l x0c), .bool false] : List Value).toArray := by kernel_rfl
theorem mixed : Try.prog.follows .mixedOrders = true := by kernel_rfl
end Go.Proofs.Ytejbbpofamfhiaa.T
