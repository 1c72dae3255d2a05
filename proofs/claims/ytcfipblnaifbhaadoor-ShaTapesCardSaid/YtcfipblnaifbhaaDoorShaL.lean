/- What the two tables of the program hold when a call begins. -/
import Derived.Test.YtcfipblnaifbhaaDoorShaP
import Derived.Test.YtcfipblnaifbhaaDoorRows
import Derived.LaidMore
import Derived.OpenShut
import Derived.Stop.Joined
import Derived.SizedLaws
namespace Go.Proofs.YtcfipblnaifbhaaDoor
open Go Go.SL
set_option linter.unusedVariables false
set_option linter.unusedSimpArgs false
set_option maxRecDepth 100000

def laidL : List (String × DataW Unit) := [("pacioli/sha.rounds", Rows.laid_pacioli_sha_rounds), ("pacioli/sha.start", Rows.laid_pacioli_sha_start)]
theorem door_met (os : Os) (args : Array Value) : laidMetH Tryd.prog laidL ((World.doorLaid Tryd.prog 400 os).forCall (fun _ _ => 0) ⟨#[], args, []⟩).memory :=
  laidMetH_of_parts3 (fuel := 8) (laidMet_of_run' 8 (by kernel_rfl) (by kernel_rfl)) (by kernel_rfl) (by kernel_rfl)
theorem gStart : Tryd.prog.globalNamed "pacioli/sha.start" = some 0 := by kernel_rfl
theorem gRounds : Tryd.prog.globalNamed "pacioli/sha.rounds" = some 1 := by kernel_rfl
theorem tStart : (Tryd.prog.globals[0]?).map (·.type) = some 50 := by kernel_rfl
theorem tRounds : (Tryd.prog.globals[1]?).map (·.type) = some 54 := by kernel_rfl
theorem dRounds : (Rows.laid_pacioli_sha_rounds : DataW Unit) = .agg (roundsL.map fun x => .lit (.int .u32 (x.toNat : Int))) := by kernel_rfl
theorem dStart : (Rows.laid_pacioli_sha_start : DataW Unit) = .agg (startL.map fun x => .lit (.int .u32 (x.toNat : Int))) := by kernel_rfl
theorem laid_u32 {H : Type} {enc : TypeId × Value → H} {W : World} {base : Nat} {sp : Nat → Bool} {held : Bool} {m t n : Nat} {cs : List Value} {l : List UInt32} {ps : List MemPlace} (ht : Tryd.prog.underlying t = some (.array n 45)) (hn : l.length = n)
    (h : DataW.trod enc Tryd.prog W base sp held m t cs = some (.agg (l.map fun x => .lit (.int .u32 (x.toNat : Int))), ps)) (hc : Tryd.prog.cellsOf t = n) : cs = wv l := by
  obtain ⟨xs, m1, rfl, hx, hl, hx2, hi⟩ := DataW.trod_array ht h
  rw [hc] at hl
  simp only [Prod.mk.injEq, DataW.agg.injEq] at hx
  have hxs := hx.1
  refine List.ext_getElem (by rw [length_wv, hl, hn]) fun i h1 h2 => ?_
  have hi1 := hi i (by omega)
  rw [show Tryd.prog.cellsOf 45 = 1 from T.co45, List.getElem?_eq_getElem (by omega)] at hi1
  obtain ⟨k, e, ed, hw⟩ := DataW.trod_int T.un45 hi1
  have e2 : (cs.drop (i * 1)).take 1 = [cs[i]] := by
    rw [Nat.mul_one, List.drop_eq_getElem_cons h1]; rfl
  rw [e2] at e
  simp only [List.cons.injEq, and_true] at e
  rw [e]
  have h4 : (l.map fun x => (DataW.lit (.int .u32 (x.toNat : Int)) : DataW H))[i]? = (xs.map (·.1))[i]? := by rw [hxs]
  rw [List.getElem?_map, List.getElem?_map, List.getElem?_eq_getElem (by omega), List.getElem?_eq_getElem (by omega), Option.map_some, Option.map_some, ed] at h4
  have h5 := Option.some.inj h4
  simp only [DataW.lit.injEq, Lit.int.injEq, true_and] at h5
  rw [← h5]
  simp [wv]
theorem env_of_laid {W : World} (h : laidMetH Tryd.prog laidL W) : Env (bag (blks W)) := by
  rw [MakeChecks.laidMetH_plain _ _ _ (by kernel_rfl)] at h
  obtain ⟨ps, ⟨g0, t0, cs0, f0, p0, q0, hg0, ht0, hv0, hd0, ⟨g1, t1, cs1, f1, p1, q1, hg1, ht1, hv1, hd1, _, _⟩, _⟩, _, _⟩ := h
  obtain rfl := Option.some.inj (gRounds.symm.trans hg0)
  obtain rfl := Option.some.inj (gStart.symm.trans hg1)
  obtain rfl := Option.some.inj (tRounds.symm.trans ht0)
  obtain rfl := Option.some.inj (tStart.symm.trans ht1)
  rw [dRounds] at hd0
  rw [dStart] at hd1
  have c0 := laid_u32 T.un54 rfl hd0 T.co54
  have c1 := laid_u32 T.un50 rfl hd1 T.co50
  have blk : ∀ (g : Nat) (nm : String) (cs : Array Value), Tryd.prog.globalNamed nm = some g → W.var? Tryd.prog nm = some cs → ∃ t fz, W.heap[g]? = some (.cells cs t fz) := fun g nm cs hg hv => by
    unfold World.var? at hv
    rw [hg, Option.bind_some] at hv
    split at hv
    · rename_i cs' t fz hh
      simp only [Option.some.injEq] at hv
      subst hv
      exact ⟨t, fz, hh⟩
    · cases hv
  obtain ⟨u0, z0, k0⟩ := blk 1 _ _ gRounds hv0
  obtain ⟨u1, z1, k1⟩ := blk 0 _ _ gStart hv1
  have a0 : cs0 = (wv roundsL).toArray := by rw [← c0]
  have a1 : cs1 = (wv startL).toArray := by rw [← c1]
  subst a0; subst a1
  exact ⟨fun As Bs hp => Src.rd hp (Rd.bag (mem_blks k1)) (by rw [List.drop_zero, List.take_length]), fun As Bs hp => Src.rd hp (Rd.bag (mem_blks k0)) (by rw [List.drop_zero, List.take_length])⟩
/-- Bytes that are handed in are not more than a machine can bear. -/
theorem sized_bytes {H : Type} {enc : TypeId × Value → H} {W : World} {held : Bool} {ts : List TypeId} {ds : List (DataW H)} {j t e m : Nat} {d : DataW H} {p : List MemPlace} {v : Value} {A : Asn} {bs : List UInt8}
    (h : (DataW.weightsEach Tryd.prog ts ds).all (· ≤ reachBytes) = true) (ht : ts[j]? = some t) (hd : ds[j]? = some d) (hu : Tryd.prog.underlying t = some (.slice e)) (hbo : Tryd.prog.bytesOf e = 1)
    (hx : DataW.trod enc Tryd.prog W 0 (fun _ => true) held m t [v] = some (d, p)) (hb : ByR A v bs) : bs.length ≤ 140737488351232 := by
  obtain ⟨q, cap, rfl, hc, _⟩ := hb
  rcases DataW.trod_slice hu hx with ⟨h1, h2⟩ | ⟨a, len, cap', elems, rest, m', _, h1, h2, _, _, _, hel, _⟩
  · simp only [List.cons.injEq, and_true, Value.slice.injEq] at h1
    omega
  · simp only [List.cons.injEq, and_true, Value.slice.injEq] at h1
    simp only [Prod.mk.injEq] at h2
    have := sized_slice h ht (hd.trans (congrArg some h2.1)) hu
    rw [hbo, List.length_map, List.length_map] at this
    have e : reachBytes = 140737488351232 := by decide
    omega
end Go.Proofs.YtcfipblnaifbhaaDoor
