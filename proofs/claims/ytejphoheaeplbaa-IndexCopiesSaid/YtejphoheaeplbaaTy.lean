/- The rows of the types that the walks meet, each asked of the kernel. -/
import Derived.Test.YtejphoheaeplbaaProg
import Derived.Test.YtejphoheaeplbaaEq
import Derived.KernelRfl
namespace Go.Proofs.Ytejphoheaeplbaa.T
open Go
theorem un2 : Try.prog.underlying 2 = some (.int .i64) := by kernel_rfl
theorem ag2 : SL.AG Try.prog 2 false := SL.AG.mk (by kernel_rfl)
theorem sz2 : SL.SZ Try.prog 2 1 := SL.SZ.mk (by kernel_rfl)
theorem co2 : Try.prog.cellsOf 2 = 1 := by kernel_rfl
theorem ti2 : SL.TI Try.prog 2 1 8 ([Value.int .i64 0]) := SL.TI.mk (by kernel_rfl)
theorem un3 : Try.prog.underlying 3 = some (.int .i64) := by kernel_rfl
theorem ag3 : SL.AG Try.prog 3 false := SL.AG.mk (by kernel_rfl)
theorem sz3 : SL.SZ Try.prog 3 1 := SL.SZ.mk (by kernel_rfl)
theorem co3 : Try.prog.cellsOf 3 = 1 := by kernel_rfl
theorem ti3 : SL.TI Try.prog 3 1 8 ([Value.int .i64 0]) := SL.TI.mk (by kernel_rfl)
theorem un4 : Try.prog.underlying 4 = some (.bool) := by kernel_rfl
theorem ag4 : SL.AG Try.prog 4 false := SL.AG.mk (by kernel_rfl)
theorem sz4 : SL.SZ Try.prog 4 1 := SL.SZ.mk (by kernel_rfl)
theorem co4 : Try.prog.cellsOf 4 = 1 := by kernel_rfl
theorem ti4 : SL.TI Try.prog 4 1 1 ([Value.bool false]) := SL.TI.mk (by kernel_rfl)
theorem un5 : Try.prog.underlying 5 = some (.int .u8) := by kernel_rfl
theorem ag5 : SL.AG Try.prog 5 false := SL.AG.mk (by kernel_rfl)
theorem sz5 : SL.SZ Try.prog 5 1 := SL.SZ.mk (by kernel_rfl)
theorem co5 : Try.prog.cellsOf 5 = 1 := by kernel_rfl
theorem ti5 : SL.TI Try.prog 5 1 1 ([Value.int .u8 0]) := SL.TI.mk (by kernel_rfl)
theorem un9 : Try.prog.underlying 9 = some (.string) := by kernel_rfl
theorem ag9 : SL.AG Try.prog 9 false := SL.AG.mk (by kernel_rfl)
theorem sz9 : SL.SZ Try.prog 9 1 := SL.SZ.mk (by kernel_rfl)
theorem co9 : Try.prog.cellsOf 9 = 1 := by kernel_rfl
theorem ti9 : SL.TI Try.prog 9 1 16 ([Value.string ByteArray.empty]) := SL.TI.mk (by kernel_rfl)
theorem un12 : Try.prog.underlying 12 = some (.int .u64) := by kernel_rfl
theorem ag12 : SL.AG Try.prog 12 false := SL.AG.mk (by kernel_rfl)
theorem sz12 : SL.SZ Try.prog 12 1 := SL.SZ.mk (by kernel_rfl)
theorem co12 : Try.prog.cellsOf 12 = 1 := by kernel_rfl
theorem ti12 : SL.TI Try.prog 12 1 8 ([Value.int .u64 0]) := SL.TI.mk (by kernel_rfl)
theorem ag13 : SL.AG Try.prog 13 true := SL.AG.mk (by kernel_rfl)
theorem sz13 : SL.SZ Try.prog 13 2 := SL.SZ.mk (by kernel_rfl)
theorem co13 : Try.prog.cellsOf 13 = 2 := by kernel_rfl
theorem ti13 : SL.TI Try.prog 13 2 24 (([Value.string ByteArray.empty]) ++ ([Value.int .u64 0])) := SL.TI.mk (by kernel_rfl)
theorem fa13_0 : SL.FA Try.prog 13 0 0 1 := SL.FA.mk (by kernel_rfl)
theorem ft13_0 : SL.FT Try.prog 13 0 0 9 := SL.FT.mk (by kernel_rfl)
theorem fa13_1 : SL.FA Try.prog 13 1 1 1 := SL.FA.mk (by kernel_rfl)
theorem ft13_1 : SL.FT Try.prog 13 1 1 12 := SL.FT.mk (by kernel_rfl)
theorem un21 : Try.prog.underlying 21 = some (.int .i32) := by kernel_rfl
theorem ag21 : SL.AG Try.prog 21 false := SL.AG.mk (by kernel_rfl)
theorem sz21 : SL.SZ Try.prog 21 1 := SL.SZ.mk (by kernel_rfl)
theorem co21 : Try.prog.cellsOf 21 = 1 := by kernel_rfl
theorem ti21 : SL.TI Try.prog 21 1 4 ([Value.int .i32 0]) := SL.TI.mk (by kernel_rfl)
theorem un22 : Try.prog.underlying 22 = some (.slice 29) := by kernel_rfl
theorem ag22 : SL.AG Try.prog 22 false := SL.AG.mk (by kernel_rfl)
theorem sz22 : SL.SZ Try.prog 22 1 := SL.SZ.mk (by kernel_rfl)
theorem co22 : Try.prog.cellsOf 22 = 1 := by kernel_rfl
theorem ti22 : SL.TI Try.prog 22 1 24 ([Value.slice none 0 0]) := SL.TI.mk (by kernel_rfl)
theorem un24 : Try.prog.underlying 24 = some (.pointer 50) := by kernel_rfl
theorem ag24 : SL.AG Try.prog 24 false := SL.AG.mk (by kernel_rfl)
theorem sz24 : SL.SZ Try.prog 24 1 := SL.SZ.mk (by kernel_rfl)
theorem co24 : Try.prog.cellsOf 24 = 1 := by kernel_rfl
theorem ti24 : SL.TI Try.prog 24 1 8 ([Value.pointer none]) := SL.TI.mk (by kernel_rfl)
theorem ag25 : SL.AG Try.prog 25 true := SL.AG.mk (by kernel_rfl)
theorem sz25 : SL.SZ Try.prog 25 2 := SL.SZ.mk (by kernel_rfl)
theorem co25 : Try.prog.cellsOf 25 = 2 := by kernel_rfl
theorem ti25 : SL.TI Try.prog 25 2 16 (([Value.pointer none]) ++ ([Value.int .i64 0])) := SL.TI.mk (by kernel_rfl)
theorem fa25_0 : SL.FA Try.prog 25 0 0 1 := SL.FA.mk (by kernel_rfl)
theorem ft25_0 : SL.FT Try.prog 25 0 0 24 := SL.FT.mk (by kernel_rfl)
theorem fa25_1 : SL.FA Try.prog 25 1 1 1 := SL.FA.mk (by kernel_rfl)
theorem ft25_1 : SL.FT Try.prog 25 1 1 3 := SL.FT.mk (by kernel_rfl)
theorem ag26 : SL.AG Try.prog 26 true := SL.AG.mk (by kernel_rfl)
theorem sz26 : SL.SZ Try.prog 26 2 := SL.SZ.mk (by kernel_rfl)
theorem co26 : Try.prog.cellsOf 26 = 2 := by kernel_rfl
theorem ti26 : SL.TI Try.prog 26 2 16 (([Value.pointer none]) ++ ([Value.int .i64 0])) := SL.TI.mk (by kernel_rfl)
theorem fa26_0 : SL.FA Try.prog 26 0 0 1 := SL.FA.mk (by kernel_rfl)
theorem ft26_0 : SL.FT Try.prog 26 0 0 24 := SL.FT.mk (by kernel_rfl)
theorem fa26_1 : SL.FA Try.prog 26 1 1 1 := SL.FA.mk (by kernel_rfl)
theorem ft26_1 : SL.FT Try.prog 26 1 1 3 := SL.FT.mk (by kernel_rfl)
theorem un27 : Try.prog.underlying 27 = some (.int .u64) := by kernel_rfl
theorem ag27 : SL.AG Try.prog 27 false := SL.AG.mk (by kernel_rfl)
theorem sz27 : SL.SZ Try.prog 27 1 := SL.SZ.mk (by kernel_rfl)
theorem co27 : Try.prog.cellsOf 27 = 1 := by kernel_rfl
theorem ti27 : SL.TI Try.prog 27 1 8 ([Value.int .u64 0]) := SL.TI.mk (by kernel_rfl)
theorem ag28 : SL.AG Try.prog 28 true := SL.AG.mk (by kernel_rfl)
theorem sz28 : SL.SZ Try.prog 28 2 := SL.SZ.mk (by kernel_rfl)
theorem co28 : Try.prog.cellsOf 28 = 2 := by kernel_rfl
theorem ti28 : SL.TI Try.prog 28 2 16 (([Value.int .u64 0]) ++ ([Value.int .u64 0])) := SL.TI.mk (by kernel_rfl)
theorem fa28_0 : SL.FA Try.prog 28 0 0 1 := SL.FA.mk (by kernel_rfl)
theorem ft28_0 : SL.FT Try.prog 28 0 0 27 := SL.FT.mk (by kernel_rfl)
theorem fa28_1 : SL.FA Try.prog 28 1 1 1 := SL.FA.mk (by kernel_rfl)
theorem ft28_1 : SL.FT Try.prog 28 1 1 27 := SL.FT.mk (by kernel_rfl)
theorem ag29 : SL.AG Try.prog 29 true := SL.AG.mk (by kernel_rfl)
theorem sz29 : SL.SZ Try.prog 29 2 := SL.SZ.mk (by kernel_rfl)
theorem co29 : Try.prog.cellsOf 29 = 2 := by kernel_rfl
theorem ti29 : SL.TI Try.prog 29 2 16 (([Value.int .u64 0]) ++ ([Value.int .u64 0])) := SL.TI.mk (by kernel_rfl)
theorem fa29_0 : SL.FA Try.prog 29 0 0 1 := SL.FA.mk (by kernel_rfl)
theorem ft29_0 : SL.FT Try.prog 29 0 0 27 := SL.FT.mk (by kernel_rfl)
theorem fa29_1 : SL.FA Try.prog 29 1 1 1 := SL.FA.mk (by kernel_rfl)
theorem ft29_1 : SL.FT Try.prog 29 1 1 27 := SL.FT.mk (by kernel_rfl)
theorem un34 : Try.prog.underlying 34 = some (.slice 37) := by kernel_rfl
theorem ag34 : SL.AG Try.prog 34 false := SL.AG.mk (by kernel_rfl)
theorem sz34 : SL.SZ Try.prog 34 1 := SL.SZ.mk (by kernel_rfl)
theorem co34 : Try.prog.cellsOf 34 = 1 := by kernel_rfl
theorem ti34 : SL.TI Try.prog 34 1 24 ([Value.slice none 0 0]) := SL.TI.mk (by kernel_rfl)
theorem un35 : Try.prog.underlying 35 = some (.map 29 3) := by kernel_rfl
theorem ag35 : SL.AG Try.prog 35 false := SL.AG.mk (by kernel_rfl)
theorem sz35 : SL.SZ Try.prog 35 1 := SL.SZ.mk (by kernel_rfl)
theorem co35 : Try.prog.cellsOf 35 = 1 := by kernel_rfl
theorem ti35 : SL.TI Try.prog 35 1 8 ([Value.map none]) := SL.TI.mk (by kernel_rfl)
theorem ag36 : SL.AG Try.prog 36 true := SL.AG.mk (by kernel_rfl)
theorem sz36 : SL.SZ Try.prog 36 3 := SL.SZ.mk (by kernel_rfl)
theorem co36 : Try.prog.cellsOf 36 = 3 := by kernel_rfl
theorem ti36 : SL.TI Try.prog 36 3 24 ((([Value.int .u64 0]) ++ ([Value.int .u64 0])) ++ ([Value.int .i64 0])) := SL.TI.mk (by kernel_rfl)
theorem fa36_0 : SL.FA Try.prog 36 0 0 2 := SL.FA.mk (by kernel_rfl)
theorem ft36_0 : SL.FT Try.prog 36 0 0 29 := SL.FT.mk (by kernel_rfl)
theorem fa36_1 : SL.FA Try.prog 36 1 2 1 := SL.FA.mk (by kernel_rfl)
theorem ft36_1 : SL.FT Try.prog 36 1 2 3 := SL.FT.mk (by kernel_rfl)
theorem ag37 : SL.AG Try.prog 37 true := SL.AG.mk (by kernel_rfl)
theorem sz37 : SL.SZ Try.prog 37 3 := SL.SZ.mk (by kernel_rfl)
theorem co37 : Try.prog.cellsOf 37 = 3 := by kernel_rfl
theorem ti37 : SL.TI Try.prog 37 3 24 ((([Value.int .u64 0]) ++ ([Value.int .u64 0])) ++ ([Value.int .i64 0])) := SL.TI.mk (by kernel_rfl)
theorem fa37_0 : SL.FA Try.prog 37 0 0 2 := SL.FA.mk (by kernel_rfl)
theorem ft37_0 : SL.FT Try.prog 37 0 0 29 := SL.FT.mk (by kernel_rfl)
theorem fa37_1 : SL.FA Try.prog 37 1 2 1 := SL.FA.mk (by kernel_rfl)
theorem ft37_1 : SL.FT Try.prog 37 1 2 3 := SL.FT.mk (by kernel_rfl)
theorem un44 : Try.prog.underlying 44 = some (.pointer 26) := by kernel_rfl
theorem ag44 : SL.AG Try.prog 44 false := SL.AG.mk (by kernel_rfl)
theorem sz44 : SL.SZ Try.prog 44 1 := SL.SZ.mk (by kernel_rfl)
theorem co44 : Try.prog.cellsOf 44 = 1 := by kernel_rfl
theorem ti44 : SL.TI Try.prog 44 1 8 ([Value.pointer none]) := SL.TI.mk (by kernel_rfl)
theorem un47 : Try.prog.underlying 47 = some (.slice 3) := by kernel_rfl
theorem ag47 : SL.AG Try.prog 47 false := SL.AG.mk (by kernel_rfl)
theorem sz47 : SL.SZ Try.prog 47 1 := SL.SZ.mk (by kernel_rfl)
theorem co47 : Try.prog.cellsOf 47 = 1 := by kernel_rfl
theorem ti47 : SL.TI Try.prog 47 1 24 ([Value.slice none 0 0]) := SL.TI.mk (by kernel_rfl)
theorem un48 : Try.prog.underlying 48 = some (.slice 24) := by kernel_rfl
theorem ag48 : SL.AG Try.prog 48 false := SL.AG.mk (by kernel_rfl)
theorem sz48 : SL.SZ Try.prog 48 1 := SL.SZ.mk (by kernel_rfl)
theorem co48 : Try.prog.cellsOf 48 = 1 := by kernel_rfl
theorem ti48 : SL.TI Try.prog 48 1 24 ([Value.slice none 0 0]) := SL.TI.mk (by kernel_rfl)
theorem ag49 : SL.AG Try.prog 49 true := SL.AG.mk (by kernel_rfl)
theorem sz49 : SL.SZ Try.prog 49 3 := SL.SZ.mk (by kernel_rfl)
theorem co49 : Try.prog.cellsOf 49 = 3 := by kernel_rfl
theorem ti49 : SL.TI Try.prog 49 3 72 (([Value.slice none 0 0]) ++ ([Value.slice none 0 0]) ++ ([Value.slice none 0 0])) := SL.TI.mk (by kernel_rfl)
theorem fa49_0 : SL.FA Try.prog 49 0 0 1 := SL.FA.mk (by kernel_rfl)
theorem ft49_0 : SL.FT Try.prog 49 0 0 22 := SL.FT.mk (by kernel_rfl)
theorem fa49_1 : SL.FA Try.prog 49 1 1 1 := SL.FA.mk (by kernel_rfl)
theorem ft49_1 : SL.FT Try.prog 49 1 1 47 := SL.FT.mk (by kernel_rfl)
theorem fa49_2 : SL.FA Try.prog 49 2 2 1 := SL.FA.mk (by kernel_rfl)
theorem ft49_2 : SL.FT Try.prog 49 2 2 48 := SL.FT.mk (by kernel_rfl)
theorem ag50 : SL.AG Try.prog 50 true := SL.AG.mk (by kernel_rfl)
theorem sz50 : SL.SZ Try.prog 50 3 := SL.SZ.mk (by kernel_rfl)
theorem co50 : Try.prog.cellsOf 50 = 3 := by kernel_rfl
theorem ti50 : SL.TI Try.prog 50 3 72 (([Value.slice none 0 0]) ++ ([Value.slice none 0 0]) ++ ([Value.slice none 0 0])) := SL.TI.mk (by kernel_rfl)
theorem fa50_0 : SL.FA Try.prog 50 0 0 1 := SL.FA.mk (by kernel_rfl)
theorem ft50_0 : SL.FT Try.prog 50 0 0 22 := SL.FT.mk (by kernel_rfl)
theorem fa50_1 : SL.FA Try.prog 50 1 1 1 := SL.FA.mk (by kernel_rfl)
theorem ft50_1 : SL.FT Try.prog 50 1 1 47 := SL.FT.mk (by kernel_rfl)
theorem fa50_2 : SL.FA Try.prog 50 2 2 1 := SL.FA.mk (by kernel_rfl)
theorem ft50_2 : SL.FT Try.prog 50 2 2 48 := SL.FT.mk (by kernel_rfl)
theorem un60 : Try.prog.underlying 60 = some (.int .u32) := by kernel_rfl
theorem ag60 : SL.AG Try.prog 60 false := SL.AG.mk (by kernel_rfl)
theorem sz60 : SL.SZ Try.prog 60 1 := SL.SZ.mk (by kernel_rfl)
theorem co60 : Try.prog.cellsOf 60 = 1 := by kernel_rfl
theorem ti60 : SL.TI Try.prog 60 1 4 ([Value.int .u32 0]) := SL.TI.mk (by kernel_rfl)
theorem un64 : Try.prog.underlying 64 = some (.pointer 5) := by kernel_rfl
theorem ag64 : SL.AG Try.prog 64 false := SL.AG.mk (by kernel_rfl)
theorem sz64 : SL.SZ Try.prog 64 1 := SL.SZ.mk (by kernel_rfl)
theorem co64 : Try.prog.cellsOf 64 = 1 := by kernel_rfl
theorem ti64 : SL.TI Try.prog 64 1 8 ([Value.pointer none]) := SL.TI.mk (by kernel_rfl)
theorem eq28 : SL.EQ Try.prog 28 [.u64, .u64] := ⟨by kernel_rfl, by kernel_rfl, SL.AG.mk (by kernel_rfl)⟩
theorem eq29 : SL.EQ Try.prog 29 [.u64, .u64] := ⟨by kernel_rfl, by kernel_rfl, SL.AG.mk (by kernel_rfl)⟩
theorem eq36 : SL.EQ Try.prog 36 [.u64, .u64, .i64] := ⟨by kernel_rfl, by kernel_rfl, SL.AG.mk (by kernel_rfl)⟩
theorem eq37 : SL.EQ Try.prog 37 [.u64, .u64, .i64] := ⟨by kernel_rfl, by kernel_rfl, SL.AG.mk (by kernel_rfl)⟩
theorem bd29  : Try.prog.built 29 [] = some ([.int .u64 0, .int .u64 0] : List Value).toArray := by kernel_rfl
theorem bd29_0 (x0 : Int) : Try.prog.built 29 [(0, .int .u64 x0)] = some ([(.int .u64 x0), .int .u64 0] : List Value).toArray := by kernel_rfl
theorem bd50  : Try.prog.built 50 [] = some ([.slice none 0 0, .slice none 0 0, .slice none 0 0] : List Value).toArray := by kernel_rfl
theorem bd50_2 (x2p : Option Addr) (x2l x2c : Nat) : Try.prog.built 50 [(2, .slice x2p x2l x2c)] = some ([.slice none 0 0, .slice none 0 0, (.slice x2p x2l x2c)] : List Value).toArray := by kernel_rfl
theorem bd29_1 (x1 : Int) : Try.prog.built 29 [(1, .int .u64 x1)] = some ([.int .u64 0, (.int .u64 x1)] : List Value).toArray := by kernel_rfl
theorem bd26  : Try.prog.built 26 [] = some ([.pointer none, .int .i64 0] : List Value).toArray := by kernel_rfl
theorem bd50_0_1 (x0p : Option Addr) (x0l x0c : Nat) (x1p : Option Addr) (x1l x1c : Nat) : Try.prog.built 50 [(0, .slice x0p x0l x0c), (1, .slice x1p x1l x1c)] = some ([(.slice x0p x0l x0c), (.slice x1p x1l x1c), .slice none 0 0] : List Value).toArray := by kernel_rfl
theorem mixed : Try.prog.follows .mixedOrders = true := by kernel_rfl
end Go.Proofs.Ytejphoheaeplbaa.T
