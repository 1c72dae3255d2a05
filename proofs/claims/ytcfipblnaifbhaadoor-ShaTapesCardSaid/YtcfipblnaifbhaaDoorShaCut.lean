/- The rest of some bytes, wherever they lie. -/
import Derived.Test.YtcfipblnaifbhaaDoorShaApart
import Derived.Test.YtcfipblnaifbhaaDoorShaV
namespace Go.Proofs.YtcfipblnaifbhaaDoor
open Go Go.SL
set_option linter.unusedVariables false
set_option linter.unusedSimpArgs false

def cutA (p : Option Addr) (i cap : Nat) : Option Addr := if cap = i then p else p.map (·.add i)
theorem addr_add2 (a : Addr) (i j : Nat) : (a.add i).add j = a.add (i + j) := by
  unfold Addr.add
  by_cases h : i = 0
  · subst h; simp
  · by_cases hj : j = 0
    · subst hj; simp
    · have : i + j ≠ 0 := by omega
      simp [h, hj, this, Nat.add_assoc]
theorem ps_sl_la {P : Program} {ty t e : TypeId} {n : FN} {f : Nat → Value} {x lo : Operand} {p : Option Addr} {len cap : Nat} {k : IntKind} {j : Int} (ht : P.underlying t = some (.slice e)) (hs : SZ P e 1) (h : ev n f x = .slice p len cap) (hj : ev n f lo = .int k j) (h0 : 0 ≤ j) (h1 : j ≤ len) :
    PS P (.slice t x (some lo) none none) ty n f (.slice (cutA p j.toNat cap) (len - j.toNat) (cap - j.toNat)) := fun o' ho _ w => by
  simp [execOp, ho, h, hj, Instr.sliceAt, Instr.slice, run_underlying ht, Instr.sliceBounds, Instr.sliceBound, asIntOf, h0, h1, Go.SL.run_sizeOf hs, cutA]
theorem ByR.drop {A : Asn} {p : Option Addr} {l cap : Nat} {bs : List UInt8} (h : ByR A (.slice p l cap) bs) (i : Nat) (hi : i ≤ bs.length) : ByR A (.slice (cutA p i cap) (l - i) (cap - i)) (bs.drop i) := by
  obtain ⟨p', cap', hv, hc, hs⟩ := h
  cases hv
  refine ⟨cutA p i cap, cap - i, by rw [List.length_drop], by rw [List.length_drop]; omega, fun As Bs hp hne => ?_⟩
  have hlt : i < bs.length := by
    rcases Nat.lt_or_ge i bs.length with h | h
    · exact h
    · rw [List.drop_of_length_le h] at hne; exact absurd rfl hne
  obtain ⟨a, h1, h2⟩ := hs As Bs hp (fun h0 => hne (by
    have : bs = [] := by cases bs with | nil => rfl | cons _ _ => simp [bv] at h0
    subst this; simp at hlt))
  subst h1
  refine ⟨a.add i, by unfold cutA; rw [if_neg (by omega)]; rfl, fun w0 w hw k u hk => ?_⟩
  rw [addr_add2]
  refine h2 w0 w hw (i + k) u ?_
  rw [bv, List.map_drop, List.getElem?_drop] at hk
  exact hk
end Go.Proofs.YtcfipblnaifbhaaDoor
