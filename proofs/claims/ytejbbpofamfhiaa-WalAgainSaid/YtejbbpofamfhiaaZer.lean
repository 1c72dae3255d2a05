/- 'append(v, make([]T, k)...)': v, and k zeros behind it. -/
import Derived.Test.YtejbbpofamfhiaaMem
import Derived.Test.YtejbbpofamfhiaaAri
namespace Go.SL
set_option linter.unusedVariables false
set_option linter.unusedSimpArgs false
open Go

variable {P : Program}
/-- The cells of k zeros. -/
def zerL (zs : List Value) (k : Nat) : List Value := (Builtin.zeroCells zs.toArray k).toList
theorem length_zerL (zs : List Value) (k : Nat) : (zerL zs k).length = k * zs.length := by unfold zerL; simp [size_zeroCells]
theorem zerL_one (z : Value) (k : Nat) : zerL [z] k = List.replicate k z := by
  unfold zerL Builtin.zeroCells
  apply List.ext_getElem
  · simp
  · intro i h1 h2
    simp [Nat.mod_one]
theorem zerL_mem {zs : List Value} {k : Nat} (h : 0 < zs.length) : ∀ u ∈ zerL zs k, u ∈ zs := by
  intro u hu
  unfold zerL Builtin.zeroCells at hu
  simp only [List.size_toArray, Array.toList_map, Array.toList_range, List.mem_map, List.mem_range] at hu
  obtain ⟨j, _, rfl⟩ := hu
  have hj := Nat.mod_lt j h
  simp [hj]
theorem run_appendZ_zero (w : World) (t u ty e : TypeId) (i : TypeInfo) (ht : P.underlying t = some (.slice e)) (hu : P.underlying u = some (.int .i64)) (hi : P.info? e = some i)
    (g : Option Addr) (sLen sCap : Nat) (hb : sLen ≤ sCap) (hg : ∀ a, g = some a → True) :
    (Builtin.append_ #[t, u] ty #[.slice g sLen sCap, .int .i64 ((0 : Nat) : Int)]).run P w = .ok (.slice g sLen sCap) w := by
  have hw : IntKind.i64.wrap 0 = 0 := by decide
  cases g <;> simp [Builtin.append_, run_underlying ht, run_underlying hu, sizeOf, typeInfo, hi, asInt, asIntOf, hw, hb, storeCells]
theorem run_appendZ_nil (w : World) (t u ty e : TypeId) (i : TypeInfo) (z : Value) (ht : P.underlying t = some (.slice e)) (hu : P.underlying u = some (.int .i64)) (hi : P.info? e = some i) (hz : i.zero = some z)
    (n : Nat) (hs0 : 0 < i.size) (h0 : 0 < n) (h63 : (n : Int) ≤ 9223372036854775807) (h48 : n * i.bytes ≤ 140737488355328) :
    (Builtin.append_ #[t, u] ty #[.slice none 0 0, .int .i64 (n : Int)]).run P w =
      .ok (.slice (some ⟨w.heap.size, 0, none⟩) n (grownCap w n 0 e)) (w.drew.alloc (.cells (Builtin.zeroCells z.cells n ++ Builtin.zeroCells z.cells (grownCap w n 0 e - n)) e)) := by
  have hw : IntKind.i64.wrap (n : Int) = n := wrap_i64_id (by omega) (by omega)
  have hn : n ≠ 0 := by omega
  have hmz : n * i.size ≠ 0 := Nat.ne_of_gt (Nat.mul_pos h0 hs0)
  have hneg : ¬ ((n : Int) < 0) := by omega
  have h63' : ¬ (9223372036854775807 < (n : Int)) := by omega
  have h48' : ¬ (281474976710656 < Builtin.nextslicecap n 0 * i.bytes) := by rw [nextslicecap_zero h0]; omega
  have h48n : ¬ (281474976710656 < (n : Int) * (i.bytes : Int)) := by
    have : ((n * i.bytes : Nat) : Int) = (n : Int) * i.bytes := Int.natCast_mul _ _
    omega
  simp [Builtin.append_, run_underlying ht, run_underlying hu, sizeOf, typeInfo, zeroValue, hi, hz, asInt, asIntOf, hw, hn, hmz, hneg, h63', h48', h48n, Question.forced, run_firstCells_none, newRow, grownCap, Nat.ne_of_gt hs0]
theorem run_appendZ_grow (w : World) (t u ty e : TypeId) (i : TypeInfo) (z : Value) (ht : P.underlying t = some (.slice e)) (hu : P.underlying u = some (.int .i64)) (hi : P.info? e = some i) (hz : i.zero = some z)
    (b : Addr) (sLen sCap : Nat) (olds : List Value) (hlo : olds.length = sLen * i.size) (holds : ∀ j v, olds[j]? = some v → w.cell? (b.add j) = some v)
    (n : Nat) (hs0 : 0 < i.size) (h0 : 0 < n) (hg : sCap < sLen + n) (h63 : ((sLen + n : Nat) : Int) ≤ 9223372036854775807) (h48 : (sLen + n) * i.bytes ≤ 140737488355328) :
    (Builtin.append_ #[t, u] ty #[.slice (some b) sLen sCap, .int .i64 (n : Int)]).run P w =
      .ok (.slice (some ⟨w.heap.size, 0, none⟩) (sLen + n) (grownCap w (sLen + n) sCap e))
        (w.drew.alloc (.cells (olds.toArray ++ Builtin.zeroCells z.cells n ++ Builtin.zeroCells z.cells (grownCap w (sLen + n) sCap e - (sLen + n))) e)) := by
  have hw : IntKind.i64.wrap (n : Int) = n := wrap_i64_id (by omega) (by omega)
  have hmz : n * i.size ≠ 0 := Nat.ne_of_gt (Nat.mul_pos h0 hs0)
  have hneg : ¬ ((n : Int) < 0) := by omega
  have hn : ¬ (sLen + n ≤ sCap) := by omega
  have hn0 : n ≠ 0 := by omega
  have h63' : ¬ (9223372036854775807 < ((sLen : Int) + (n : Int))) := by omega
  have h48' : ¬ (281474976710656 < Builtin.nextslicecap (sLen + n) sCap * i.bytes) := by have := growslice_fits hg h48; omega
  have h48n : ¬ (281474976710656 < (n : Int) * (i.bytes : Int)) := by
    have : ((n * i.bytes : Nat) : Int) = (n : Int) * i.bytes := Int.natCast_mul _ _
    have h9 : n * i.bytes ≤ (sLen + n) * i.bytes := Nat.mul_le_mul_right _ (by omega)
    omega
  have hfo := run_firstCells_some (P := P) w.drew i.size sLen b sLen sCap olds hlo (by simpa using holds)
  simp [Builtin.append_, run_underlying ht, run_underlying hu, sizeOf, typeInfo, zeroValue, hi, hz, asInt, asIntOf, hw, hn, hn0, hmz, hneg, h63', h48', h48n, Question.forced, hfo, newRow, grownCap, Nat.ne_of_gt hs0]
theorem run_appendZ_room (w : World) (t u ty e : TypeId) (i : TypeInfo) (z : Value) (ht : P.underlying t = some (.slice e)) (hu : P.underlying u = some (.int .i64)) (hi : P.info? e = some i) (hz : i.zero = some z)
    (g sLen sCap : Nat) (cur : Array Value) (hgg : w.heap[g]? = some (.cells cur e (0, 0)))
    (n : Nat) (hs0 : 0 < i.size) (h0 : 0 < n) (hzs : z.cells.size = i.size) (h1 : ∀ u ∈ zerL z.cells.toList n, u.oneCell' = true) (h63 : ((sLen + n : Nat) : Int) ≤ 9223372036854775807) (h48 : (sLen + n) * i.bytes ≤ 140737488355328)
    (hroom : sLen + n ≤ sCap) (hfit : sLen * i.size + (zerL z.cells.toList n).length ≤ cur.size) :
    (Builtin.append_ #[t, u] ty #[.slice (some ⟨g, 0, none⟩) sLen sCap, .int .i64 (n : Int)]).run P w =
      .ok (.slice (some ⟨g, 0, none⟩) (sLen + n) sCap) (w.setRow g (cur.toList.take (sLen * i.size) ++ zerL z.cells.toList n ++ cur.toList.drop (sLen * i.size + (zerL z.cells.toList n).length)).toArray) := by
  have hw : IntKind.i64.wrap (n : Int) = n := wrap_i64_id (by omega) (by omega)
  have hmz : n * i.size ≠ 0 := Nat.ne_of_gt (Nat.mul_pos h0 hs0)
  have hneg : ¬ ((n : Int) < 0) := by omega
  have hn0 : n ≠ 0 := by omega
  have h48n : ¬ (281474976710656 < (n : Int) * (i.bytes : Int)) := by
    have : ((n * i.bytes : Nat) : Int) = (n : Int) * i.bytes := Int.natCast_mul _ _
    have h9 : n * i.bytes ≤ (sLen + n) * i.bytes := Nat.mul_le_mul_right _ (by omega)
    omega
  have hst := run_storeCells_at P g (sLen * i.size) e (zerL z.cells.toList n) 0 cur w hgg (by simpa using hfit) h1
  simp only [Nat.add_zero] at hst
  have he : (Builtin.zeroCells z.cells n).toList = zerL z.cells.toList n := by unfold zerL; simp
  simp [Builtin.append_, run_underlying ht, run_underlying hu, sizeOf, typeInfo, zeroValue, hi, hz, asInt, asIntOf, hw, hn0, hmz, hneg, h48n, hroom, Addr.add_lit, he, hst, Nat.ne_of_gt hs0]

variable {ty : TypeId} {n : FN} {f : Nat → Value} {w0 : World} {As Bs : List Asn} {x y : Operand} {t e : TypeId} {s bytes : Nat} {zs : List Value} {v : Value}
/-- 'append(v, make([]T, k)...)', v having its row for itself. -/
theorem os_appendZ {m k : Nat} {xs : List Value} {u : TypeId} (hp : As.Perm (slOwn e s v m xs :: Bs)) (ht : P.underlying t = some (.slice e)) (hu : P.underlying u = some (.int .i64)) (hi : TI P e s bytes zs) (hzl : zs.length = s) (hs0 : 0 < s)
    (hx : ev n f x = v) (hy : ev n f y = .int .i64 (k : Int)) (h1 : ∀ u ∈ zs, u.oneCell' = true) (h63 : m + k ≤ maxLen) (hby : (m + k) * bytes ≤ 140737488355328) :
    OS P (BI .append #[x, y] #[t, u]) ty n f w0 As (fun v' Cs => ∃ q d, v' = .slice q (m + k) d ∧ Cs = slOwn e s v' (m + k) (xs ++ zerL zs k) :: Bs ∧ (q = none → m + k = 0)) :=
  OS.of_run fun w hw o' ho hty => by
    have hw' := hw.perm hp
    obtain ⟨i, z, i1, i2, i3, i4, i5⟩ := hi
    subst i2; subst i3
    have hzs : z.cells.size = i.size := by rw [i5]; simpa using hzl
    have hzt : z.cells.toList = zs := by rw [i5]
    have hl : (zerL zs k).length = k * i.size := by rw [length_zerL, hzl]
    have hone : ∀ u ∈ zerL zs k, u.oneCell' = true := fun u hu => h1 u (zerL_mem (by omega) u hu)
    have hza : Builtin.zeroCells z.cells k = (zerL zs k).toArray := by rw [i5]; unfold zerL; simp
    have run0 : ∀ r w1, (Builtin.append_ #[t, u] o'.type #[v, .int .i64 (k : Int)]).run P w = .ok r w1 → (execOp (ev n f) o').run P w = .ok (.value r) w1 := fun r w1 hr => by
      simp [execOp, ho, BI, resolve, invoke, builtin, hx, hy, hr]
    have hB : Heap w0 w Bs := by
      obtain ⟨L, a1, L1, L2, a3, a4, a5⟩ := hw'
      exact ⟨L, a1, by have := sat_mk (As := []) (L1 := L1) a3 trivial a5; simpa using this⟩
    have hd : Heap w0 w.drew Bs := heap_drew hB
    have hsm : m + k ≤ 9223372036854775807 := by unfold maxLen at h63; omega
    obtain ⟨L, a1, L1, L2, a3, a4, a5⟩ := hw'
    obtain ⟨hxl, hform⟩ := a4
    have hlen : (xs ++ zerL zs k).length = (m + k) * i.size := by rw [List.length_append, hxl, hl, Nat.add_mul]
    have grown : ∀ old, old < m + k → Heap w0 (w.drew.alloc (.cells (xs.toArray ++ (zerL zs k).toArray ++ Builtin.zeroCells z.cells (grownCap w (m + k) old e - (m + k))) e))
        (slOwn e i.size (.slice (some ⟨w.heap.size, 0, none⟩) (m + k) (grownCap w (m + k) old e)) (m + k) (xs ++ zerL zs k) :: Bs) := by
      intro old _
      have hge := grownCap_ge w (m + k) old e
      have hcm : grownCap w (m + k) old e ≤ maxLen := grownCap_le_maxLen w (m + k) old e h63
      have hnew := heap_new (.cells (xs ++ zerL zs k ++ (Builtin.zeroCells z.cells (grownCap w (m + k) old e - (m + k))).toList).toArray e (0, 0)) hd
      have heq : (xs ++ zerL zs k ++ (Builtin.zeroCells z.cells (grownCap w (m + k) old e - (m + k))).toList).toArray = xs.toArray ++ (zerL zs k).toArray ++ Builtin.zeroCells z.cells (grownCap w (m + k) old e - (m + k)) := by simp
      refine (Ent.slMk (cur := xs ++ zerL zs k ++ (Builtin.zeroCells z.cells (grownCap w (m + k) old e - (m + k))).toList) hge hcm ?_ ?_ Bs).heap ?_
      · refine Nat.le_of_eq (Eq.symm ?_); rw [List.length_append, hlen, Array.length_toList, size_zeroCells, hzs, ← Nat.add_mul]; congr 1; omega
      · rw [← hlen]; exact List.take_left
      · rw [← heq]; exact hnew
    have hz0 : zerL zs 0 = [] := List.eq_nil_of_length_eq_zero (by rw [length_zerL]; simp)
    rcases hform with ⟨b1, b2, b3⟩ | ⟨g, cap, cur, b1, b2, b3, b4, b5, b6⟩
    · subst b1; subst b2
      have hx0 : xs = [] := List.eq_nil_of_length_eq_zero (by rw [hxl]; simp)
      subst hx0
      by_cases hk : k = 0
      · subst hk
        have hr := run_appendZ_zero (P := P) w t u o'.type e i ht hu i1 none 0 0 (Nat.le_refl _) (fun _ _ => trivial)
        rw [hz0]
        exact ⟨_, _, _, run0 _ _ hr, ⟨_, _, rfl, rfl, by simp⟩, (Ent.slNil e i.size Bs).heap hB⟩
      · have hk1 : 0 < k := Nat.pos_of_ne_zero hk
        have hby' : k * i.bytes ≤ 140737488355328 := by rw [Nat.zero_add] at hby; exact hby
        have hr := run_appendZ_nil (P := P) w t u o'.type e i z ht hu i1 i4 k hs0 hk1 (by omega) hby'
        rw [hza] at hr
        have hg := grown 0 (by omega)
        simp only [Nat.zero_add, List.nil_append, Array.empty_append] at hg ⊢
        exact ⟨_, _, _, run0 _ _ hr, ⟨_, _, rfl, rfl, by intro h; cases h⟩, hg⟩
    · subst b1
      have hbl : Heap w0 w (cb g e cur :: Bs) := ⟨L, a1, L1, L2, a3, b6, a5⟩
      have hgg := heap_get hbl
      by_cases hk : k = 0
      · subst hk
        have hr := run_appendZ_zero (P := P) w t u o'.type e i ht hu i1 (some ⟨g, 0, none⟩) m cap b2 (fun _ _ => trivial)
        refine ⟨_, _, _, run0 _ _ hr, ⟨_, _, rfl, rfl, by simp⟩, ?_⟩
        rw [hz0]
        simp only [Nat.add_zero, List.append_nil]
        exact (Ent.slMk b2 b3 b4 b5 Bs).heap hbl
      · have hk1 : 0 < k := Nat.pos_of_ne_zero hk
        by_cases hroom : m + k ≤ cap
        · have hr := run_appendZ_room (P := P) w t u o'.type e i z ht hu i1 i4 g m cap cur.toArray hgg k hs0 hk1 hzs (by rw [hzt]; exact hone) (Int.ofNat_le.2 hsm) hby hroom (by rw [hzt]; simp only [List.size_toArray]; rw [hl, ← Nat.add_mul]; exact Nat.le_trans (Nat.mul_le_mul_right _ hroom) b4)
          rw [hzt] at hr
          refine ⟨_, _, _, run0 _ _ hr, ⟨_, _, rfl, rfl, by simp⟩, ?_⟩
          have hrow := row_heap (cur.take (m * i.size) ++ zerL zs k ++ cur.drop (m * i.size + (zerL zs k).length)) hbl
          refine (Ent.slMk hroom b3 ?_ ?_ Bs).heap hrow
          · have h5 : m * i.size + (zerL zs k).length ≤ cur.length := by rw [hl, ← Nat.add_mul]; exact Nat.le_trans (Nat.mul_le_mul_right _ hroom) b4
            simp only [List.length_append, List.length_take, List.length_drop]
            omega
          · rw [b5, ← hlen]; exact List.take_left
        · have holds : ∀ j u, xs[j]? = some u → w.cell? ((⟨g, 0, none⟩ : Addr).add j) = some u := fun j u hj => by
            rw [add_mk, cell_of_blk hgg]
            rw [← b5, List.getElem?_take] at hj
            split at hj
            · simpa using hj
            · cases hj
          have hr := run_appendZ_grow (P := P) w t u o'.type e i z ht hu i1 i4 ⟨g, 0, none⟩ m cap xs hxl holds k hs0 hk1 (Nat.lt_of_not_le hroom) (Int.ofNat_le.2 hsm) hby
          rw [hza] at hr
          exact ⟨_, _, _, run0 _ _ hr, ⟨_, _, rfl, rfl, by simp⟩, grown cap (by omega)⟩
end Go.SL
