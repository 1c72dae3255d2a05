/- The log, plainly: what a sector says, a record's sectors, what is read back, what is written: no program in sight. -/
import Derived.Test.YtejbbpofamfhiaaDiskU
import Derived.Test.YtejbbpofamfhiaaNum
namespace Go.Proofs.Ytejbbpofamfhiaa
set_option linter.unusedVariables false
set_option linter.unusedSimpArgs false
open Go Go.SL

abbrev Z64 : List UInt8 := List.replicate 64 0
/-- How many sectors a record of n bytes has. -/
def sz (n : Nat) : Nat := (n + 63) / 56
def sec (b : List UInt8) : Nat × List UInt8 × Bool := (num (b.take 4), (b.drop 4).take 56, decide (num (b.take 4) = num (b.drop 60)) && decide (0 < num (b.take 4)))
def secAt (V : List (List UInt8)) (at_ : Nat) : Nat × List UInt8 × Bool := match V[at_]? with
  | some b => sec b
  | none => (0, [], false)
def gather (V : List (List UInt8)) (at_ stamp : Nat) : Nat → Nat → Option (List UInt8)
  | 0, _ => some []
  | m + 1, i => if (secAt V (at_ + i)).2.2 = true ∧ (secAt V (at_ + i)).1 = stamp then (gather V at_ stamp m (i + 1)).map ((secAt V (at_ + i)).2.1 ++ ·) else none
def hdN (b : List UInt8) : Nat := num (b.take 4)
def hdL (b : List UInt8) : Nat := num ((b.drop 4).take 4)
def recAt (V : List (List UInt8)) (at_ number : Nat) : Option (List UInt8 × Nat) :=
  if (secAt V at_).2.2 = false then none
  else if hdN (secAt V at_).2.1 ≠ number ∨ 4096 < hdL (secAt V at_).2.1 then none
  else (gather V at_ (secAt V at_).1 (sz (hdL (secAt V at_).2.1) - 1) 1).map fun more => ((((secAt V at_).2.1 ++ more).drop 8).take (hdL (secAt V at_).2.1), (secAt V at_).1)
/-- All records from a sector on. -/
def recs (V : List (List UInt8)) : Nat → Nat → Nat → List (List UInt8)
  | 0, _, _ => []
  | f + 1, at_, c => match recAt V at_ (c + 1) with
    | none => []
    | some (b, _) => b :: recs V f (at_ + sz b.length) (c + 1)
def endOf (l : List (List UInt8)) : Nat := (l.map fun b => sz b.length).sum
def stampMax (V : List (List UInt8)) : Nat := V.foldl (fun m b => max (max m (num (b.take 4))) (num (b.drop 60))) 0
/-- Writes, one behind the other, till one is refused. -/
def writes : List (Nat × List UInt8) → DS → Int × DS
  | [], st => (0, st)
  | w :: l, st => if (st.write w.1 w.2).1 = 0 then writes l (st.write w.1 w.2).2 else st.write w.1 w.2
def payload (c : Nat) (b : List UInt8) : List UInt8 := be 4 (c : Int) ++ (be 4 (b.length : Int) ++ b)
def secOf (s : Nat) (P : List UInt8) (i : Nat) : List UInt8 := be 4 (s : Int) ++ (pad 56 ((P.drop (i * 56)).take 56) ++ be 4 (s : Int))
def secs (s c : Nat) (b : List UInt8) : List (List UInt8) := (List.range (sz b.length)).map (secOf s (payload c b))

theorem payload_len (c : Nat) (b : List UInt8) : (payload c b).length = b.length + 8 := by simp [payload, length_be]; omega
theorem secOf_len (s : Nat) (P : List UInt8) (i : Nat) : (secOf s P i).length = 64 := by
  have : (pad 56 ((P.drop (i * 56)).take 56)).length = 56 := length_pad (by rw [List.length_take]; omega)
  simp [secOf, length_be, this]
theorem secs_len (s c : Nat) (b : List UInt8) : (secs s c b).length = sz b.length := by simp [secs]
theorem sz_pos (n : Nat) : 1 ≤ sz n := by unfold sz; omega
theorem secAt_some {V : List (List UInt8)} {a : Nat} (h : a < V.length) : secAt V a = sec V[a] := by unfold secAt; rw [List.getElem?_eq_getElem h]
theorem secAt_none {V : List (List UInt8)} {a : Nat} (h : V.length ≤ a) : secAt V a = (0, [], false) := by unfold secAt; rw [List.getElem?_eq_none h]
/-! ## all records -/
theorem recs_fuel (V : List (List UInt8)) : ∀ (f f' a c : Nat), V.length + 1 - a ≤ f → V.length + 1 - a ≤ f' → recs V f a c = recs V f' a c
  | 0, 0, _, _, _, _ => rfl
  | 0, f' + 1, a, c, h, _ => by
    have : recAt V a (c + 1) = none := by unfold recAt; rw [secAt_none (by omega), if_pos rfl]
    simp [recs, this]
  | f + 1, 0, a, c, _, h => by
    have : recAt V a (c + 1) = none := by unfold recAt; rw [secAt_none (by omega), if_pos rfl]
    simp [recs, this]
  | f + 1, f' + 1, a, c, h, h' => by
    simp only [recs]
    cases recAt V a (c + 1) with
    | none => rfl
    | some r =>
      obtain ⟨b, s⟩ := r
      have := sz_pos b.length
      simp only [recs_fuel V f f' (a + sz b.length) (c + 1) (by omega) (by omega)]
/-- All records from a sector on, numbered from c + 1. -/
def recsA (V : List (List UInt8)) (a c : Nat) : List (List UInt8) := recs V (V.length + 1 - a) a c
theorem recAt_lt {V : List (List UInt8)} {a c : Nat} {r : List UInt8 × Nat} (h : recAt V a c = some r) : a < V.length := by
  rcases Nat.lt_or_ge a V.length with h1 | h1
  · exact h1
  · unfold recAt at h; rw [secAt_none h1, if_pos rfl] at h; cases h
theorem recAt_len {V : List (List UInt8)} {a c : Nat} {r : List UInt8 × Nat} (h : recAt V a c = some r) : r.1.length ≤ 4096 := by
  unfold recAt at h
  split at h
  · cases h
  · split at h
    · cases h
    · rename_i h2
      obtain ⟨m, _, rfl⟩ := Option.map_eq_some_iff.1 h
      have : ((((secAt V a).2.1 ++ m).drop 8).take (hdL (secAt V a).2.1)).length ≤ hdL (secAt V a).2.1 := List.length_take_le _ _
      simp only
      omega
theorem recsA_none {V : List (List UInt8)} {a c : Nat} (h : recAt V a (c + 1) = none) : recsA V a c = [] := by
  unfold recsA
  cases V.length + 1 - a with
  | zero => rfl
  | succ f => simp [recs, h]
theorem recsA_some {V : List (List UInt8)} {a c : Nat} {b : List UInt8} {s : Nat} (h : recAt V a (c + 1) = some (b, s)) : recsA V a c = b :: recsA V (a + sz b.length) (c + 1) := by
  have hlt := recAt_lt h
  have := sz_pos b.length
  unfold recsA
  rw [show V.length + 1 - a = (V.length - a) + 1 by omega]
  simp only [recs, h]
  rw [recs_fuel V (V.length - a) (V.length + 1 - (a + sz b.length)) _ _ (by omega) (Nat.le_refl _)]
theorem stampMax_succ (V : List (List UInt8)) (i : Nat) (h : i < V.length) : stampMax (V.take (i + 1)) = max (max (stampMax (V.take i)) (num (V[i].take 4))) (num (V[i].drop 60)) := by
  rw [List.take_succ_eq_append_getElem h, stampMax, List.foldl_append]; rfl
/-- What is wiped: the sectors from a on that are not zeros. -/
def wipesF (V : List (List UInt8)) : Nat → Nat → List (Nat × List UInt8)
  | 0, _ => []
  | m + 1, a => if V.getD a [] = Z64 then wipesF V m (a + 1) else (a, []) :: wipesF V m (a + 1)
def wipes (V : List (List UInt8)) (E : Nat) : List (Nat × List UInt8) := wipesF V (V.length - E) E
theorem write_data (st : DS) (a : Int) (bs : List UInt8) : (st.write a bs).2.data = st.data := by
  unfold DS.write; split
  · rfl
  · split <;> rfl
theorem write_wait (st : DS) (a : Nat) (bs : List UInt8) : (st.write a bs).2.wait = st.wait ∨ (st.write a bs).2.wait = st.wait ++ [(a, pad 64 bs)] := by
  unfold DS.write; split
  · exact Or.inl rfl
  · split
    · exact Or.inl rfl
    · exact Or.inr (by simp)
theorem write_count (st : DS) (a : Int) (bs : List UInt8) : st.count ≤ (st.write a bs).2.count ∧ (st.write a bs).2.count ≤ st.count + 1 := by
  unfold DS.write; split
  · exact ⟨Int.le_refl _, by simp only; omega⟩
  · split
    · exact ⟨Int.le_refl _, by simp only; omega⟩
    · exact ⟨by simp only; omega, by simp⟩
theorem write_left (st : DS) (a : Int) (bs : List UInt8) (h : 0 ≤ st.left) : 0 ≤ (st.write a bs).2.left ∧ (st.write a bs).2.left ≤ st.left := by
  unfold DS.write; split
  · exact ⟨h, Int.le_refl _⟩
  · split
    · exact ⟨h, Int.le_refl _⟩
    · rename_i h2
      cases ha : st.armed with
      | false => exact ⟨by simp; exact h, by simp⟩
      | true =>
        simp only [DS.down, ha, Bool.true_and, decide_eq_true_eq] at h2
        exact ⟨by simp; omega, by simp; omega⟩
end Go.Proofs.Ytejbbpofamfhiaa
