/- The document's own hash: the loop over blocks. -/
import Derived.Test.YtcfipblnaifbhaaDoorShaS
namespace Go.Proofs.YtcfipblnaifbhaaDoor
set_option linter.unusedVariables false
set_option linter.unusedSimpArgs false
open Go Go.SL

theorem roots_64 : outR true 312 = roundsL := by decide +kernel
theorem roots_8 : outR false 20 = startL := by decide +kernel
theorem outR_length (cube : Bool) (p : Nat) : (outR cube p).length = ((List.range' 2 (p - 2)).filter primeM).length := by unfold outR; rw [List.length_map]
theorem primes_64 : ∀ p : Fin 312, ((List.range' 2 (p.val - 2)).filter primeM).length < 64 := by decide +kernel
theorem primes_8 : ∀ p : Fin 20, ((List.range' 2 (p.val - 2)).filter primeM).length < 8 := by decide +kernel
theorem roots64_spec : FSpec Tryd.prog 15 [.int .i64 64, .bool true] [] (fun r As => ∃ q d, r = .slice q 64 d ∧ As = [slOwn 45 1 (.slice q 64 d) 64 (wv roundsL)]) := by
  have h := roots_spec 64 true 312 (by decide) (by decide) (by decide) (fun p _ hp => by rw [outR_length]; exact primes_64 ⟨p, hp⟩) (by rw [roots_64]; rfl)
  rw [roots_64] at h
  exact h
theorem roots8_spec : FSpec Tryd.prog 15 [.int .i64 8, .bool false] [] (fun r As => ∃ q d, r = .slice q 8 d ∧ As = [slOwn 45 1 (.slice q 8 d) 8 (wv startL)]) := by
  have h := roots_spec 8 false 20 (by decide) (by decide) (by decide) (fun p _ hp => by rw [outR_length]; exact primes_8 ⟨p, hp⟩) (by rw [roots_8]; rfl)
  rw [roots_8] at h
  exact h

/-! ## slices of numbers -/
theorem Src.own {e m d : Nat} {q : Option Addr} {xs : List Value} (hm : xs.length = m) (hq : m ≠ 0 → ∃ g, q = some ⟨g, 0, none⟩) {As Bs : List Asn} (hp : As.Perm (slOwn e 1 (.slice q m d) m xs :: Bs)) : Src As q xs := by
  subst hm
  intro hne
  obtain ⟨g, rfl⟩ := hq (fun h => hne (List.eq_nil_of_length_eq_zero h))
  refine ⟨_, rfl, fun w0 w hw j u hj => ?_⟩
  obtain ⟨L, a1, L1, L2, a3, a4, a5⟩ := hw.perm hp
  rcases a4.2 with ⟨b1, _⟩ | ⟨g', cap, cur, b1, b2, b3, b4, b5, b6⟩
  · cases b1
  · cases b1
    have hgg : w.heap[g]? = some (.cells cur.toArray e (0, 0)) := a1.mem (g, _) (a3.mem_iff.2 (List.mem_append_left _ (by rw [b6]; exact List.mem_singleton.2 rfl)))
    rw [add_mk, cell_of_blk hgg]
    rw [← b5, List.getElem?_take] at hj
    split at hj
    · simpa using hj
    · cases hj
theorem srcAt {As : List Asn} {b : Nat} {l : List UInt32} (h : Src As (some ⟨b, 0, none⟩) (wv l)) (i : Nat) (hi : i < l.length) : Src As (some ⟨b, 0 + ((i : Nat) : Int).toNat * 1, none⟩) [w32 (l.getD i 0)] := by
  have := Src.get h (wv_get hi)
  rwa [show 0 + ((i : Nat) : Int).toNat * 1 = 0 + i by omega]
theorem zerosW : ∀ k : Nat, (List.replicate k [Value.int .u32 0]).flatten = wv (List.replicate k 0)
  | 0 => rfl
  | k + 1 => by rw [List.replicate_succ, List.flatten_cons, zerosW k, List.replicate_succ]; rfl
section
variable {P : Program} {ty : TypeId} {n : FN} {f : Nat → Value} {w0 : World} {As Bs : List Asn} {x y : Operand} {t e : TypeId} {v : Value}
theorem os_storeOwn {g m d i : Nat} {xs : List Value} (hp : As.Perm (slOwn e 1 (.slice (some ⟨g, 0, none⟩) m d) m xs :: Bs)) (hs : SZ P t 1) (hx : ev n f x = .pointer (some ⟨g, 0 + ((i : Nat) : Int).toNat * 1, none⟩)) (hy : ev n f y = v) (hv : v.oneCell' = true) (hi : i < m) :
    OS P (.store t x y) ty n f w0 As (Is undef (slOwn e 1 (.slice (some ⟨g, 0, none⟩) m d) m (xs.set i v) :: Bs)) := fun w hw o ho hty K Q hK => by
  have hp' := hw.perm hp
  obtain ⟨L, a1, L1, L2, a3, ⟨hxl, hf⟩, a5⟩ := hp'
  rcases hf with ⟨b1, _⟩ | ⟨g', cap, cur, b1, b2, b3, b4, b5, b6⟩
  · cases b1
  · cases b1
    have hcb : Heap w0 w (cb g e cur :: Bs) := ⟨L, a1, L1, L2, a3, b6, a5⟩
    rw [show 0 + ((i : Nat) : Int).toNat * 1 = i by omega] at hx
    refine os_store1 (P := P) (ty := ty) (w0 := w0) (List.Perm.refl (cb g e cur :: Bs)) hs hx hy hv (by omega) w hcb o ho hty K Q fun v' As' w' hr hw' => ?_
    obtain ⟨r1, r2⟩ := hr
    subst r1; subst r2
    refine hK undef _ w' ⟨rfl, rfl⟩ ((Ent.slMk (e := e) (size := 1) (g := g) (m := m) (cap := d) (cur := cur.set i v) (xs := xs.set i v) b2 b3 (by rw [List.length_set]; exact b4) (by rw [← b5]; rw [List.take_set]) Bs).heap hw')
theorem os_make32 {kl kc : IntKind} (k : Nat) (ht : P.underlying t = some (.slice e)) (hi : TI P e 1 4 [.int .u32 0]) (hx : ev n f x = .int kl (k : Nat)) (hy : ev n f y = .int kc (k : Nat)) (hb : k ≤ 70368744177664) :
    OS P (.makeSlice t x y) ty n f w0 As (NewSl e (wv (List.replicate k 0)) k k As) := by
  have h := os_make (P := P) (ty := ty) (w0 := w0) (As := As) ht hi rfl hx hy (by omega) (by omega) (by omega) (by omega)
  rw [Int.toNat_natCast, zerosW] at h
  exact h
end
theorem ByR.atN {A : Asn} {b o l cap : Nat} {bs : List UInt8} (h : ByR A (.slice (some ⟨b, o, none⟩) l cap) bs) (i : Nat) (hi : i < bs.length) {As Bs : List Asn} (hp : As.Perm (A :: Bs)) : Src As (some ⟨b, o + ((i : Nat) : Int).toNat * 1, none⟩) [.int .u8 (bs[i].toNat : Int)] := by
  rw [Int.toNat_natCast]; exact h.at hi hp
end Go.Proofs.YtcfipblnaifbhaaDoor
