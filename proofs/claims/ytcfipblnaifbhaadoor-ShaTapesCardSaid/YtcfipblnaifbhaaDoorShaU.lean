/- The document's own hash of bytes: the contract: it is the program's. -/
import Derived.Test.YtcfipblnaifbhaaDoorShaT
import Derived.Test.YtcfipblnaifbhaaDoorPiece
namespace Go.Proofs.YtcfipblnaifbhaaDoor
set_option linter.unusedVariables false
set_option linter.unusedSimpArgs false
open Go Go.SL

theorem shl_or (x y k : UInt32) : (x ||| y) <<< k = (x <<< k) ||| (y <<< k) := by
  apply UInt32.toBitVec_inj.1
  simp only [UInt32.toBitVec_or, UInt32.toBitVec_shiftLeft]
  exact BitVec.shiftLeft_or_distrib ..
theorem shl_shl (x : UInt32) (a b c : Nat) (h : c = a + b) (ha : c < 32) : (x <<< UInt32.ofNat a) <<< UInt32.ofNat b = x <<< UInt32.ofNat c := by
  subst h
  apply UInt32.toNat_inj.1
  rw [UInt32.toNat_shiftLeft, UInt32.toNat_shiftLeft, UInt32.toNat_shiftLeft, UInt32.toNat_ofNat', UInt32.toNat_ofNat', UInt32.toNat_ofNat', Nat.mod_eq_of_lt (by omega : a < 2 ^ 32), Nat.mod_eq_of_lt (by omega : b < 2 ^ 32), Nat.mod_eq_of_lt (by omega : a + b < 2 ^ 32), Nat.mod_eq_of_lt (by omega : a < 32), Nat.mod_eq_of_lt (by omega : b < 32), Nat.mod_eq_of_lt (by omega : a + b < 32)]
  rw [Nat.shiftLeft_eq, Nat.shiftLeft_eq, Nat.shiftLeft_eq, Nat.mod_mul_mod, Nat.pow_add, Nat.mul_assoc]
theorem word4 (a b c d : UInt8) : (((UInt32.ofNat a.toNat <<< UInt32.ofNat 24 ||| UInt32.ofNat b.toNat <<< UInt32.ofNat 16) ||| UInt32.ofNat c.toNat <<< UInt32.ofNat 8) ||| UInt32.ofNat d.toNat) = [a,b,c,d].foldl (fun a c => (a <<< UInt32.ofNat 8) ||| UInt32.ofNat c.toNat) 0 := by
  simp only [List.foldl]
  generalize UInt32.ofNat a.toNat = a
  generalize UInt32.ofNat b.toNat = b
  generalize UInt32.ofNat c.toNat = c
  generalize UInt32.ofNat d.toNat = d
  have z : (0 : UInt32) <<< UInt32.ofNat 8 = 0 := by decide
  have z2 : (0 : UInt32) ||| a = a := by simp
  rw [z, z2, shl_or, shl_or, shl_or, shl_shl a 8 8 16 rfl (by decide), shl_shl a 16 8 24 rfl (by decide), shl_shl b 8 8 16 rfl (by decide)]

def wA (q : List UInt8) (i : Nat) : List UInt32 := if i < 16 then w1 q i else w2 q (i - 16)
theorem wA_len (q : List UInt8) (i : Nat) : (wA q i).length = 64 := by
  unfold wA; split
  · exact w1_len q i (by omega)
  · exact w2_len q _
theorem wA_low (q : List UInt8) (i : Nat) (h : i < 16) : wA q (i + 1) = (wA q i).set i (wordIn ((q.drop (4 * i)).take 4)) := by
  have h1 := w1_set q i (by omega)
  unfold wA
  rw [if_pos h, h1]
  by_cases h2 : i + 1 < 16
  · rw [if_pos h2]
  · rw [if_neg h2, show i + 1 - 16 = 0 by omega, show i + 1 = 16 by omega]; rfl
theorem wA_high (q : List UInt8) (i : Nat) (h : 16 ≤ i) : wA q (i + 1) = (wA q i).set i (wNext (wA q i) i) := by
  unfold wA
  rw [if_neg (by omega), if_neg (by omega), show i + 1 - 16 = (i - 16) + 1 by omega, w2, show 16 + (i - 16) = i by omega]
theorem wA_64 (q : List UInt8) : wA q 64 = w2 q 48 := rfl
theorem wA_0 (q : List UInt8) : List.replicate 64 (0 : UInt32) = wA q 0 := by simp [wA, w1]
theorem word_at (pd : List UInt8) (m i : Nat) (hi : i < 16) (h : 64 * m + 64 ≤ pd.length) :
    wordIn ((((pd.drop (64 * m)).take 64).drop (4 * i)).take 4) = (((UInt32.ofNat (pd[64 * m + 4 * i]'(by omega)).toNat <<< UInt32.ofNat 24 ||| UInt32.ofNat (pd[64 * m + 4 * i + 1]'(by omega)).toNat <<< UInt32.ofNat 16) ||| UInt32.ofNat (pd[64 * m + 4 * i + 2]'(by omega)).toNat <<< UInt32.ofNat 8) ||| UInt32.ofNat (pd[64 * m + 4 * i + 3]'(by omega)).toNat) := by
  rw [word4]
  have e : (((pd.drop (64 * m)).take 64).drop (4 * i)).take 4 = [pd[64 * m + 4 * i]'(by omega), pd[64 * m + 4 * i + 1]'(by omega), pd[64 * m + 4 * i + 2]'(by omega), pd[64 * m + 4 * i + 3]'(by omega)] := by
    refine List.ext_getElem (by simp; omega) fun k h1 h2 => ?_
    simp only [List.length_cons, List.length_nil] at h2
    simp only [List.getElem_take, List.getElem_drop]
    match k, h2 with
    | 0, _ => rfl
    | 1, _ => rfl
    | 2, _ => rfl
    | 3, _ => rfl
  rw [e]; rfl
end Go.Proofs.YtcfipblnaifbhaaDoor
