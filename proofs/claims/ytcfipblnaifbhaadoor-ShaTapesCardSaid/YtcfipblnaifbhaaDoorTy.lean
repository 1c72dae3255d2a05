/- The rows of the types that the walks meet, each asked of the kernel. -/
import Derived.Test.YtcfipblnaifbhaaDoorProg
import Derived.Test.YtcfipblnaifbhaaDoorEq
import Derived.KernelRfl
namespace Go.Proofs.YtcfipblnaifbhaaDoor.T
open Go
theorem un2 : Tryd.prog.underlying 2 = some (.int .i64) := by kernel_rfl
theorem ag2 : SL.AG Tryd.prog 2 false := SL.AG.mk (by kernel_rfl)
theorem sz2 : SL.SZ Tryd.prog 2 1 := SL.SZ.mk (by kernel_rfl)
theorem co2 : Tryd.prog.cellsOf 2 = 1 := by kernel_rfl
theorem ti2 : SL.TI Tryd.prog 2 1 8 ([Value.int .i64 0]) := SL.TI.mk (by kernel_rfl)
theorem un3 : Tryd.prog.underlying 3 = some (.int .i64) := by kernel_rfl
theorem ag3 : SL.AG Tryd.prog 3 false := SL.AG.mk (by kernel_rfl)
theorem sz3 : SL.SZ Tryd.prog 3 1 := SL.SZ.mk (by kernel_rfl)
theorem co3 : Tryd.prog.cellsOf 3 = 1 := by kernel_rfl
theorem ti3 : SL.TI Tryd.prog 3 1 8 ([Value.int .i64 0]) := SL.TI.mk (by kernel_rfl)
theorem un4 : Tryd.prog.underlying 4 = some (.bool) := by kernel_rfl
theorem ag4 : SL.AG Tryd.prog 4 false := SL.AG.mk (by kernel_rfl)
theorem sz4 : SL.SZ Tryd.prog 4 1 := SL.SZ.mk (by kernel_rfl)
theorem co4 : Tryd.prog.cellsOf 4 = 1 := by kernel_rfl
theorem ti4 : SL.TI Tryd.prog 4 1 1 ([Value.bool false]) := SL.TI.mk (by kernel_rfl)
theorem un5 : Tryd.prog.underlying 5 = some (.int .u8) := by kernel_rfl
theorem ag5 : SL.AG Tryd.prog 5 false := SL.AG.mk (by kernel_rfl)
theorem sz5 : SL.SZ Tryd.prog 5 1 := SL.SZ.mk (by kernel_rfl)
theorem co5 : Tryd.prog.cellsOf 5 = 1 := by kernel_rfl
theorem ti5 : SL.TI Tryd.prog 5 1 1 ([Value.int .u8 0]) := SL.TI.mk (by kernel_rfl)
theorem un9 : Tryd.prog.underlying 9 = some (.string) := by kernel_rfl
theorem ag9 : SL.AG Tryd.prog 9 false := SL.AG.mk (by kernel_rfl)
theorem sz9 : SL.SZ Tryd.prog 9 1 := SL.SZ.mk (by kernel_rfl)
theorem co9 : Tryd.prog.cellsOf 9 = 1 := by kernel_rfl
theorem ti9 : SL.TI Tryd.prog 9 1 16 ([Value.string ByteArray.empty]) := SL.TI.mk (by kernel_rfl)
theorem un12 : Tryd.prog.underlying 12 = some (.int .u64) := by kernel_rfl
theorem ag12 : SL.AG Tryd.prog 12 false := SL.AG.mk (by kernel_rfl)
theorem sz12 : SL.SZ Tryd.prog 12 1 := SL.SZ.mk (by kernel_rfl)
theorem co12 : Tryd.prog.cellsOf 12 = 1 := by kernel_rfl
theorem ti12 : SL.TI Tryd.prog 12 1 8 ([Value.int .u64 0]) := SL.TI.mk (by kernel_rfl)
theorem ag13 : SL.AG Tryd.prog 13 true := SL.AG.mk (by kernel_rfl)
theorem sz13 : SL.SZ Tryd.prog 13 2 := SL.SZ.mk (by kernel_rfl)
theorem co13 : Tryd.prog.cellsOf 13 = 2 := by kernel_rfl
theorem ti13 : SL.TI Tryd.prog 13 2 24 (([Value.string ByteArray.empty]) ++ ([Value.int .u64 0])) := SL.TI.mk (by kernel_rfl)
theorem fa13_0 : SL.FA Tryd.prog 13 0 0 1 := SL.FA.mk (by kernel_rfl)
theorem ft13_0 : SL.FT Tryd.prog 13 0 0 9 := SL.FT.mk (by kernel_rfl)
theorem fa13_1 : SL.FA Tryd.prog 13 1 1 1 := SL.FA.mk (by kernel_rfl)
theorem ft13_1 : SL.FT Tryd.prog 13 1 1 12 := SL.FT.mk (by kernel_rfl)
theorem un21 : Tryd.prog.underlying 21 = some (.int .i32) := by kernel_rfl
theorem ag21 : SL.AG Tryd.prog 21 false := SL.AG.mk (by kernel_rfl)
theorem sz21 : SL.SZ Tryd.prog 21 1 := SL.SZ.mk (by kernel_rfl)
theorem co21 : Tryd.prog.cellsOf 21 = 1 := by kernel_rfl
theorem ti21 : SL.TI Tryd.prog 21 1 4 ([Value.int .i32 0]) := SL.TI.mk (by kernel_rfl)
theorem un22 : Tryd.prog.underlying 22 = some (.slice 5) := by kernel_rfl
theorem ag22 : SL.AG Tryd.prog 22 false := SL.AG.mk (by kernel_rfl)
theorem sz22 : SL.SZ Tryd.prog 22 1 := SL.SZ.mk (by kernel_rfl)
theorem co22 : Tryd.prog.cellsOf 22 = 1 := by kernel_rfl
theorem ti22 : SL.TI Tryd.prog 22 1 24 ([Value.slice none 0 0]) := SL.TI.mk (by kernel_rfl)
theorem un24 : Tryd.prog.underlying 24 = some (.array 32 5) := by kernel_rfl
theorem ag24 : SL.AG Tryd.prog 24 true := SL.AG.mk (by kernel_rfl)
theorem sz24 : SL.SZ Tryd.prog 24 32 := SL.SZ.mk (by kernel_rfl)
theorem co24 : Tryd.prog.cellsOf 24 = 32 := by kernel_rfl
theorem ti24 : SL.TI Tryd.prog 24 32 32 (List.replicate 32 (Value.int .u8 0)) := SL.TI.mk (by kernel_rfl)
theorem un25 : Tryd.prog.underlying 25 = some (.array 32 5) := by kernel_rfl
theorem ag25 : SL.AG Tryd.prog 25 true := SL.AG.mk (by kernel_rfl)
theorem sz25 : SL.SZ Tryd.prog 25 32 := SL.SZ.mk (by kernel_rfl)
theorem co25 : Tryd.prog.cellsOf 25 = 32 := by kernel_rfl
theorem ti25 : SL.TI Tryd.prog 25 32 32 (List.replicate 32 (Value.int .u8 0)) := SL.TI.mk (by kernel_rfl)
theorem un30 : Tryd.prog.underlying 30 = some (.slice 22) := by kernel_rfl
theorem ag30 : SL.AG Tryd.prog 30 false := SL.AG.mk (by kernel_rfl)
theorem sz30 : SL.SZ Tryd.prog 30 1 := SL.SZ.mk (by kernel_rfl)
theorem co30 : Tryd.prog.cellsOf 30 = 1 := by kernel_rfl
theorem ti30 : SL.TI Tryd.prog 30 1 24 ([Value.slice none 0 0]) := SL.TI.mk (by kernel_rfl)
theorem un31 : Tryd.prog.underlying 31 = some (.pointer 33) := by kernel_rfl
theorem ag31 : SL.AG Tryd.prog 31 false := SL.AG.mk (by kernel_rfl)
theorem sz31 : SL.SZ Tryd.prog 31 1 := SL.SZ.mk (by kernel_rfl)
theorem co31 : Tryd.prog.cellsOf 31 = 1 := by kernel_rfl
theorem ti31 : SL.TI Tryd.prog 31 1 8 ([Value.pointer none]) := SL.TI.mk (by kernel_rfl)
theorem ag32 : SL.AG Tryd.prog 32 true := SL.AG.mk (by kernel_rfl)
theorem sz32 : SL.SZ Tryd.prog 32 1 := SL.SZ.mk (by kernel_rfl)
theorem co32 : Tryd.prog.cellsOf 32 = 1 := by kernel_rfl
theorem ti32 : SL.TI Tryd.prog 32 1 24 (([Value.slice none 0 0])) := SL.TI.mk (by kernel_rfl)
theorem fa32_0 : SL.FA Tryd.prog 32 0 0 1 := SL.FA.mk (by kernel_rfl)
theorem ft32_0 : SL.FT Tryd.prog 32 0 0 30 := SL.FT.mk (by kernel_rfl)
theorem ag33 : SL.AG Tryd.prog 33 true := SL.AG.mk (by kernel_rfl)
theorem sz33 : SL.SZ Tryd.prog 33 1 := SL.SZ.mk (by kernel_rfl)
theorem co33 : Tryd.prog.cellsOf 33 = 1 := by kernel_rfl
theorem ti33 : SL.TI Tryd.prog 33 1 24 (([Value.slice none 0 0])) := SL.TI.mk (by kernel_rfl)
theorem fa33_0 : SL.FA Tryd.prog 33 0 0 1 := SL.FA.mk (by kernel_rfl)
theorem ft33_0 : SL.FT Tryd.prog 33 0 0 30 := SL.FT.mk (by kernel_rfl)
theorem un34 : Tryd.prog.underlying 34 = some (.slice 9) := by kernel_rfl
theorem ag34 : SL.AG Tryd.prog 34 false := SL.AG.mk (by kernel_rfl)
theorem sz34 : SL.SZ Tryd.prog 34 1 := SL.SZ.mk (by kernel_rfl)
theorem co34 : Tryd.prog.cellsOf 34 = 1 := by kernel_rfl
theorem ti34 : SL.TI Tryd.prog 34 1 24 ([Value.slice none 0 0]) := SL.TI.mk (by kernel_rfl)
theorem un41 : Tryd.prog.underlying 41 = some (.int .u64) := by kernel_rfl
theorem ag41 : SL.AG Tryd.prog 41 false := SL.AG.mk (by kernel_rfl)
theorem sz41 : SL.SZ Tryd.prog 41 1 := SL.SZ.mk (by kernel_rfl)
theorem co41 : Tryd.prog.cellsOf 41 = 1 := by kernel_rfl
theorem ti41 : SL.TI Tryd.prog 41 1 8 ([Value.int .u64 0]) := SL.TI.mk (by kernel_rfl)
theorem un42 : Tryd.prog.underlying 42 = some (.int .u64) := by kernel_rfl
theorem ag42 : SL.AG Tryd.prog 42 false := SL.AG.mk (by kernel_rfl)
theorem sz42 : SL.SZ Tryd.prog 42 1 := SL.SZ.mk (by kernel_rfl)
theorem co42 : Tryd.prog.cellsOf 42 = 1 := by kernel_rfl
theorem ti42 : SL.TI Tryd.prog 42 1 8 ([Value.int .u64 0]) := SL.TI.mk (by kernel_rfl)
theorem un43 : Tryd.prog.underlying 43 = some (.slice 45) := by kernel_rfl
theorem ag43 : SL.AG Tryd.prog 43 false := SL.AG.mk (by kernel_rfl)
theorem sz43 : SL.SZ Tryd.prog 43 1 := SL.SZ.mk (by kernel_rfl)
theorem co43 : Tryd.prog.cellsOf 43 = 1 := by kernel_rfl
theorem ti43 : SL.TI Tryd.prog 43 1 24 ([Value.slice none 0 0]) := SL.TI.mk (by kernel_rfl)
theorem un45 : Tryd.prog.underlying 45 = some (.int .u32) := by kernel_rfl
theorem ag45 : SL.AG Tryd.prog 45 false := SL.AG.mk (by kernel_rfl)
theorem sz45 : SL.SZ Tryd.prog 45 1 := SL.SZ.mk (by kernel_rfl)
theorem co45 : Tryd.prog.cellsOf 45 = 1 := by kernel_rfl
theorem ti45 : SL.TI Tryd.prog 45 1 4 ([Value.int .u32 0]) := SL.TI.mk (by kernel_rfl)
theorem un48 : Tryd.prog.underlying 48 = some (.map 25 9) := by kernel_rfl
theorem ag48 : SL.AG Tryd.prog 48 false := SL.AG.mk (by kernel_rfl)
theorem sz48 : SL.SZ Tryd.prog 48 1 := SL.SZ.mk (by kernel_rfl)
theorem co48 : Tryd.prog.cellsOf 48 = 1 := by kernel_rfl
theorem ti48 : SL.TI Tryd.prog 48 1 8 ([Value.map none]) := SL.TI.mk (by kernel_rfl)
theorem un50 : Tryd.prog.underlying 50 = some (.array 8 45) := by kernel_rfl
theorem ag50 : SL.AG Tryd.prog 50 true := SL.AG.mk (by kernel_rfl)
theorem sz50 : SL.SZ Tryd.prog 50 8 := SL.SZ.mk (by kernel_rfl)
theorem co50 : Tryd.prog.cellsOf 50 = 8 := by kernel_rfl
theorem ti50 : SL.TI Tryd.prog 50 8 32 (List.replicate 8 (Value.int .u32 0)) := SL.TI.mk (by kernel_rfl)
theorem un52 : Tryd.prog.underlying 52 = some (.pointer 50) := by kernel_rfl
theorem ag52 : SL.AG Tryd.prog 52 false := SL.AG.mk (by kernel_rfl)
theorem sz52 : SL.SZ Tryd.prog 52 1 := SL.SZ.mk (by kernel_rfl)
theorem co52 : Tryd.prog.cellsOf 52 = 1 := by kernel_rfl
theorem ti52 : SL.TI Tryd.prog 52 1 8 ([Value.pointer none]) := SL.TI.mk (by kernel_rfl)
theorem un54 : Tryd.prog.underlying 54 = some (.array 64 45) := by kernel_rfl
theorem ag54 : SL.AG Tryd.prog 54 true := SL.AG.mk (by kernel_rfl)
theorem sz54 : SL.SZ Tryd.prog 54 64 := SL.SZ.mk (by kernel_rfl)
theorem co54 : Tryd.prog.cellsOf 54 = 64 := by kernel_rfl
theorem ti54 : SL.TI Tryd.prog 54 64 256 (List.replicate 64 (Value.int .u32 0)) := SL.TI.mk (by kernel_rfl)
theorem un56 : Tryd.prog.underlying 56 = some (.array 4 45) := by kernel_rfl
theorem ag56 : SL.AG Tryd.prog 56 true := SL.AG.mk (by kernel_rfl)
theorem sz56 : SL.SZ Tryd.prog 56 4 := SL.SZ.mk (by kernel_rfl)
theorem co56 : Tryd.prog.cellsOf 56 = 4 := by kernel_rfl
theorem ti56 : SL.TI Tryd.prog 56 4 16 (List.replicate 4 (Value.int .u32 0)) := SL.TI.mk (by kernel_rfl)
theorem un67 : Tryd.prog.underlying 67 = some (.pointer 5) := by kernel_rfl
theorem ag67 : SL.AG Tryd.prog 67 false := SL.AG.mk (by kernel_rfl)
theorem sz67 : SL.SZ Tryd.prog 67 1 := SL.SZ.mk (by kernel_rfl)
theorem co67 : Tryd.prog.cellsOf 67 = 1 := by kernel_rfl
theorem ti67 : SL.TI Tryd.prog 67 1 8 ([Value.pointer none]) := SL.TI.mk (by kernel_rfl)
theorem eq24 : SL.EQ Tryd.prog 24 [.u8, .u8, .u8, .u8, .u8, .u8, .u8, .u8, .u8, .u8, .u8, .u8, .u8, .u8, .u8, .u8, .u8, .u8, .u8, .u8, .u8, .u8, .u8, .u8, .u8, .u8, .u8, .u8, .u8, .u8, .u8, .u8] := ⟨by kernel_rfl, by kernel_rfl, SL.AG.mk (by kernel_rfl)⟩
theorem eq25 : SL.EQ Tryd.prog 25 [.u8, .u8, .u8, .u8, .u8, .u8, .u8, .u8, .u8, .u8, .u8, .u8, .u8, .u8, .u8, .u8, .u8, .u8, .u8, .u8, .u8, .u8, .u8, .u8, .u8, .u8, .u8, .u8, .u8, .u8, .u8, .u8] := ⟨by kernel_rfl, by kernel_rfl, SL.AG.mk (by kernel_rfl)⟩
theorem eq50 : SL.EQ Tryd.prog 50 [.u32, .u32, .u32, .u32, .u32, .u32, .u32, .u32] := ⟨by kernel_rfl, by kernel_rfl, SL.AG.mk (by kernel_rfl)⟩
theorem eq54 : SL.EQ Tryd.prog 54 [.u32, .u32, .u32, .u32, .u32, .u32, .u32, .u32, .u32, .u32, .u32, .u32, .u32, .u32, .u32, .u32, .u32, .u32, .u32, .u32, .u32, .u32, .u32, .u32, .u32, .u32, .u32, .u32, .u32, .u32, .u32, .u32, .u32, .u32, .u32, .u32, .u32, .u32, .u32, .u32, .u32, .u32, .u32, .u32, .u32, .u32, .u32, .u32, .u32, .u32, .u32, .u32, .u32, .u32, .u32, .u32, .u32, .u32, .u32, .u32, .u32, .u32, .u32, .u32] := ⟨by kernel_rfl, by kernel_rfl, SL.AG.mk (by kernel_rfl)⟩
theorem eq56 : SL.EQ Tryd.prog 56 [.u32, .u32, .u32, .u32] := ⟨by kernel_rfl, by kernel_rfl, SL.AG.mk (by kernel_rfl)⟩
theorem bd33  : Tryd.prog.built 33 [] = some ([.slice none 0 0] : List Value).toArray := by kernel_rfl
theorem mixed : Tryd.prog.follows .mixedOrders = true := by kernel_rfl
end Go.Proofs.YtcfipblnaifbhaaDoor.T
