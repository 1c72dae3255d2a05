/- The rows of the types that the walks meet, each asked of the kernel. -/
import Derived.Test.YtafalcebolbbeaaProg
import Derived.Test.YtafalcebolbbeaaEq
import Derived.KernelRfl
namespace Go.Proofs.Ytafalcebolbbeaa.T
open Go
theorem un2 : Try.prog.underlying 2 = some (.int .i64) := by kernel_rfl
theorem ag2 : SL.AG Try.prog 2 false := SL.AG.mk (by kernel_rfl)
theorem sz2 : SL.SZ Try.prog 2 1 := SL.SZ.mk (by kernel_rfl)
theorem co2 : Try.prog.cellsOf 2 = 1 := by kernel_rfl
theorem ti2 : SL.TI Try.prog 2 1 8 ([Value.int .i64 0]) := SL.TI.mk (by kernel_rfl)
theorem un3 : Try.prog.underlying 3 = some (.int .i64) := by kernel_rfl
theorem ag3 : SL.AG Try.prog 3 false := SL.AG.mk (by kernel_rfl)
theorem sz3 : SL.SZ Try.prog 3 1 := SL.SZ.mk (by kernel_rfl)
theorem co3 : Try.prog.cellsOf 3 = 1 := by kernel_rfl
theorem ti3 : SL.TI Try.prog 3 1 8 ([Value.int .i64 0]) := SL.TI.mk (by kernel_rfl)
theorem un4 : Try.prog.underlying 4 = some (.bool) := by kernel_rfl
theorem ag4 : SL.AG Try.prog 4 false := SL.AG.mk (by kernel_rfl)
theorem sz4 : SL.SZ Try.prog 4 1 := SL.SZ.mk (by kernel_rfl)
theorem co4 : Try.prog.cellsOf 4 = 1 := by kernel_rfl
theorem ti4 : SL.TI Try.prog 4 1 1 ([Value.bool false]) := SL.TI.mk (by kernel_rfl)
theorem un5 : Try.prog.underlying 5 = some (.int .u8) := by kernel_rfl
theorem ag5 : SL.AG Try.prog 5 false := SL.AG.mk (by kernel_rfl)
theorem sz5 : SL.SZ Try.prog 5 1 := SL.SZ.mk (by kernel_rfl)
theorem co5 : Try.prog.cellsOf 5 = 1 := by kernel_rfl
theorem ti5 : SL.TI Try.prog 5 1 1 ([Value.int .u8 0]) := SL.TI.mk (by kernel_rfl)
theorem un9 : Try.prog.underlying 9 = some (.string) := by kernel_rfl
theorem ag9 : SL.AG Try.prog 9 false := SL.AG.mk (by kernel_rfl)
theorem sz9 : SL.SZ Try.prog 9 1 := SL.SZ.mk (by kernel_rfl)
theorem co9 : Try.prog.cellsOf 9 = 1 := by kernel_rfl
theorem ti9 : SL.TI Try.prog 9 1 16 ([Value.string ByteArray.empty]) := SL.TI.mk (by kernel_rfl)
theorem un12 : Try.prog.underlying 12 = some (.int .u64) := by kernel_rfl
theorem ag12 : SL.AG Try.prog 12 false := SL.AG.mk (by kernel_rfl)
theorem sz12 : SL.SZ Try.prog 12 1 := SL.SZ.mk (by kernel_rfl)
theorem co12 : Try.prog.cellsOf 12 = 1 := by kernel_rfl
theorem ti12 : SL.TI Try.prog 12 1 8 ([Value.int .u64 0]) := SL.TI.mk (by kernel_rfl)
theorem ag13 : SL.AG Try.prog 13 true := SL.AG.mk (by kernel_rfl)
theorem sz13 : SL.SZ Try.prog 13 2 := SL.SZ.mk (by kernel_rfl)
theorem co13 : Try.prog.cellsOf 13 = 2 := by kernel_rfl
theorem ti13 : SL.TI Try.prog 13 2 24 (([Value.string ByteArray.empty]) ++ ([Value.int .u64 0])) := SL.TI.mk (by kernel_rfl)
theorem fa13_0 : SL.FA Try.prog 13 0 0 1 := SL.FA.mk (by kernel_rfl)
theorem ft13_0 : SL.FT Try.prog 13 0 0 9 := SL.FT.mk (by kernel_rfl)
theorem fa13_1 : SL.FA Try.prog 13 1 1 1 := SL.FA.mk (by kernel_rfl)
theorem ft13_1 : SL.FT Try.prog 13 1 1 12 := SL.FT.mk (by kernel_rfl)
theorem un21 : Try.prog.underlying 21 = some (.int .i32) := by kernel_rfl
theorem ag21 : SL.AG Try.prog 21 false := SL.AG.mk (by kernel_rfl)
theorem sz21 : SL.SZ Try.prog 21 1 := SL.SZ.mk (by kernel_rfl)
theorem co21 : Try.prog.cellsOf 21 = 1 := by kernel_rfl
theorem ti21 : SL.TI Try.prog 21 1 4 ([Value.int .i32 0]) := SL.TI.mk (by kernel_rfl)
theorem un22 : Try.prog.underlying 22 = some (.slice 27) := by kernel_rfl
theorem ag22 : SL.AG Try.prog 22 false := SL.AG.mk (by kernel_rfl)
theorem sz22 : SL.SZ Try.prog 22 1 := SL.SZ.mk (by kernel_rfl)
theorem co22 : Try.prog.cellsOf 22 = 1 := by kernel_rfl
theorem ti22 : SL.TI Try.prog 22 1 24 ([Value.slice none 0 0]) := SL.TI.mk (by kernel_rfl)
theorem un24 : Try.prog.underlying 24 = some (.array 17 3) := by kernel_rfl
theorem ag24 : SL.AG Try.prog 24 true := SL.AG.mk (by kernel_rfl)
theorem sz24 : SL.SZ Try.prog 24 17 := SL.SZ.mk (by kernel_rfl)
theorem co24 : Try.prog.cellsOf 24 = 17 := by kernel_rfl
theorem ti24 : SL.TI Try.prog 24 17 136 (List.replicate 17 (Value.int .i64 0)) := SL.TI.mk (by kernel_rfl)
theorem un25 : Try.prog.underlying 25 = some (.int .u64) := by kernel_rfl
theorem ag25 : SL.AG Try.prog 25 false := SL.AG.mk (by kernel_rfl)
theorem sz25 : SL.SZ Try.prog 25 1 := SL.SZ.mk (by kernel_rfl)
theorem co25 : Try.prog.cellsOf 25 = 1 := by kernel_rfl
theorem ti25 : SL.TI Try.prog 25 1 8 ([Value.int .u64 0]) := SL.TI.mk (by kernel_rfl)
theorem ag26 : SL.AG Try.prog 26 true := SL.AG.mk (by kernel_rfl)
theorem sz26 : SL.SZ Try.prog 26 2 := SL.SZ.mk (by kernel_rfl)
theorem co26 : Try.prog.cellsOf 26 = 2 := by kernel_rfl
theorem ti26 : SL.TI Try.prog 26 2 16 (([Value.int .u64 0]) ++ ([Value.int .u64 0])) := SL.TI.mk (by kernel_rfl)
theorem fa26_0 : SL.FA Try.prog 26 0 0 1 := SL.FA.mk (by kernel_rfl)
theorem ft26_0 : SL.FT Try.prog 26 0 0 25 := SL.FT.mk (by kernel_rfl)
theorem fa26_1 : SL.FA Try.prog 26 1 1 1 := SL.FA.mk (by kernel_rfl)
theorem ft26_1 : SL.FT Try.prog 26 1 1 25 := SL.FT.mk (by kernel_rfl)
theorem ag27 : SL.AG Try.prog 27 true := SL.AG.mk (by kernel_rfl)
theorem sz27 : SL.SZ Try.prog 27 2 := SL.SZ.mk (by kernel_rfl)
theorem co27 : Try.prog.cellsOf 27 = 2 := by kernel_rfl
theorem ti27 : SL.TI Try.prog 27 2 16 (([Value.int .u64 0]) ++ ([Value.int .u64 0])) := SL.TI.mk (by kernel_rfl)
theorem fa27_0 : SL.FA Try.prog 27 0 0 1 := SL.FA.mk (by kernel_rfl)
theorem ft27_0 : SL.FT Try.prog 27 0 0 25 := SL.FT.mk (by kernel_rfl)
theorem fa27_1 : SL.FA Try.prog 27 1 1 1 := SL.FA.mk (by kernel_rfl)
theorem ft27_1 : SL.FT Try.prog 27 1 1 25 := SL.FT.mk (by kernel_rfl)
theorem un29 : Try.prog.underlying 29 = some (.int .u64) := by kernel_rfl
theorem ag29 : SL.AG Try.prog 29 false := SL.AG.mk (by kernel_rfl)
theorem sz29 : SL.SZ Try.prog 29 1 := SL.SZ.mk (by kernel_rfl)
theorem co29 : Try.prog.cellsOf 29 = 1 := by kernel_rfl
theorem ti29 : SL.TI Try.prog 29 1 8 ([Value.int .u64 0]) := SL.TI.mk (by kernel_rfl)
theorem un46 : Try.prog.underlying 46 = some (.slice 5) := by kernel_rfl
theorem ag46 : SL.AG Try.prog 46 false := SL.AG.mk (by kernel_rfl)
theorem sz46 : SL.SZ Try.prog 46 1 := SL.SZ.mk (by kernel_rfl)
theorem co46 : Try.prog.cellsOf 46 = 1 := by kernel_rfl
theorem ti46 : SL.TI Try.prog 46 1 24 ([Value.slice none 0 0]) := SL.TI.mk (by kernel_rfl)
theorem un55 : Try.prog.underlying 55 = some (.pointer 73) := by kernel_rfl
theorem ag55 : SL.AG Try.prog 55 false := SL.AG.mk (by kernel_rfl)
theorem sz55 : SL.SZ Try.prog 55 1 := SL.SZ.mk (by kernel_rfl)
theorem co55 : Try.prog.cellsOf 55 = 1 := by kernel_rfl
theorem ti55 : SL.TI Try.prog 55 1 8 ([Value.pointer none]) := SL.TI.mk (by kernel_rfl)
theorem un63 : Try.prog.underlying 63 = some (.int .u32) := by kernel_rfl
theorem ag63 : SL.AG Try.prog 63 false := SL.AG.mk (by kernel_rfl)
theorem sz63 : SL.SZ Try.prog 63 1 := SL.SZ.mk (by kernel_rfl)
theorem co63 : Try.prog.cellsOf 63 = 1 := by kernel_rfl
theorem ti63 : SL.TI Try.prog 63 1 4 ([Value.int .u32 0]) := SL.TI.mk (by kernel_rfl)
theorem un67 : Try.prog.underlying 67 = some (.pointer 5) := by kernel_rfl
theorem ag67 : SL.AG Try.prog 67 false := SL.AG.mk (by kernel_rfl)
theorem sz67 : SL.SZ Try.prog 67 1 := SL.SZ.mk (by kernel_rfl)
theorem co67 : Try.prog.cellsOf 67 = 1 := by kernel_rfl
theorem ti67 : SL.TI Try.prog 67 1 8 ([Value.pointer none]) := SL.TI.mk (by kernel_rfl)
theorem ag72 : SL.AG Try.prog 72 true := SL.AG.mk (by kernel_rfl)
theorem sz72 : SL.SZ Try.prog 72 1 := SL.SZ.mk (by kernel_rfl)
theorem co72 : Try.prog.cellsOf 72 = 1 := by kernel_rfl
theorem ti72 : SL.TI Try.prog 72 1 16 (([Value.string ByteArray.empty])) := SL.TI.mk (by kernel_rfl)
theorem fa72_0 : SL.FA Try.prog 72 0 0 1 := SL.FA.mk (by kernel_rfl)
theorem ft72_0 : SL.FT Try.prog 72 0 0 9 := SL.FT.mk (by kernel_rfl)
theorem ag73 : SL.AG Try.prog 73 true := SL.AG.mk (by kernel_rfl)
theorem sz73 : SL.SZ Try.prog 73 1 := SL.SZ.mk (by kernel_rfl)
theorem co73 : Try.prog.cellsOf 73 = 1 := by kernel_rfl
theorem ti73 : SL.TI Try.prog 73 1 16 (([Value.string ByteArray.empty])) := SL.TI.mk (by kernel_rfl)
theorem fa73_0 : SL.FA Try.prog 73 0 0 1 := SL.FA.mk (by kernel_rfl)
theorem ft73_0 : SL.FT Try.prog 73 0 0 9 := SL.FT.mk (by kernel_rfl)
theorem eq24 : SL.EQ Try.prog 24 [.i64, .i64, .i64, .i64, .i64, .i64, .i64, .i64, .i64, .i64, .i64, .i64, .i64, .i64, .i64, .i64, .i64] := ⟨by kernel_rfl, by kernel_rfl, SL.AG.mk (by kernel_rfl)⟩
theorem eq26 : SL.EQ Try.prog 26 [.u64, .u64] := ⟨by kernel_rfl, by kernel_rfl, SL.AG.mk (by kernel_rfl)⟩
theorem eq27 : SL.EQ Try.prog 27 [.u64, .u64] := ⟨by kernel_rfl, by kernel_rfl, SL.AG.mk (by kernel_rfl)⟩
theorem bd27  : Try.prog.built 27 [] = some ([.int .u64 0, .int .u64 0] : List Value).toArray := by kernel_rfl
theorem bd27_0_1 (x0 : Int) (x1 : Int) : Try.prog.built 27 [(0, .int .u64 x0), (1, .int .u64 x1)] = some ([(.int .u64 x0), (.int .u64 x1)] : List Value).toArray := by kernel_rfl
theorem bd27_0 (x0 : Int) : Try.prog.built 27 [(0, .int .u64 x0)] = some ([(.int .u64 x0), .int .u64 0] : List Value).toArray := by kernel_rfl
theorem bd27_1 (x1 : Int) : Try.prog.built 27 [(1, .int .u64 x1)] = some ([.int .u64 0, (.int .u64 x1)] : List Value).toArray := by kernel_rfl
theorem mixed : Try.prog.follows .mixedOrders = true := by kernel_rfl
end Go.Proofs.Ytafalcebolbbeaa.T
