/- Plain facts on numbers of 128 bits, bytes and digits: no program in sight. -/
import Derived.Test.YtejbbpofamfhiaaAri
namespace Go.SL
set_option linter.unusedVariables false
set_option linter.unusedSimpArgs false
open Go

/-! ## bytes of a number, the highest first -/
def by8 (x : Int) : UInt8 := UInt8.ofNat (x % 256).toNat
theorem by8_toNat (x : Int) : ((by8 x).toNat : Int) = x % 256 := by
  unfold by8
  rw [UInt8.toNat_ofNat']
  have h1 := Int.emod_nonneg x (b := 256) (by decide)
  have h2 := Int.emod_lt_of_pos x (b := 256) (by decide)
  omega
def be : Nat → Int → List UInt8
  | 0, _ => []
  | n + 1, x => by8 (x / 2 ^ (8 * n)) :: be n x
@[simp] theorem length_be (n : Nat) (x : Int) : (be n x).length = n := by
  induction n with
  | zero => rfl
  | succ n ih => simp [be, ih]
/-- The number of bytes. -/
def num (l : List UInt8) : Nat := l.foldl (fun a c => a * 256 + c.toNat) 0
theorem num_foldl (l : List UInt8) (a : Nat) : l.foldl (fun a c => a * 256 + c.toNat) a = a * 256 ^ l.length + num l := by
  induction l generalizing a with
  | nil => simp [num]
  | cons c l ih =>
    have e : num (c :: l) = (0 * 256 + c.toNat) * 256 ^ l.length + num l := ih _
    rw [List.foldl_cons, ih, e, List.length_cons, Nat.pow_succ, Nat.add_mul, Nat.mul_assoc, Nat.mul_comm 256]
    simp; omega
theorem num_cons (c : UInt8) (l : List UInt8) : num (c :: l) = c.toNat * 256 ^ l.length + num l := by
  have e : num (c :: l) = (0 * 256 + c.toNat) * 256 ^ l.length + num l := num_foldl l _
  rw [e]; simp
theorem num_append (l m : List UInt8) : num (l ++ m) = num l * 256 ^ m.length + num m := by
  unfold num
  rw [List.foldl_append, num_foldl m]
  rfl
theorem num_snoc (l : List UInt8) (c : UInt8) : num (l ++ [c]) = num l * 256 + c.toNat := by
  rw [num_append]; simp [num]
theorem num_lt (l : List UInt8) : num l < 256 ^ l.length := by
  induction l with
  | nil => simp [num]
  | cons c l ih =>
    rw [num_cons, List.length_cons, Nat.pow_succ]
    have h1 : c.toNat ≤ 255 := by have := c.toNat_lt; omega
    have h2 : c.toNat * 256 ^ l.length ≤ 255 * 256 ^ l.length := Nat.mul_le_mul_right _ h1
    omega
theorem pow256 (n : Nat) : (2 : Nat) ^ (8 * n) = 256 ^ n := by rw [Nat.pow_mul]
theorem num_be (n : Nat) (x : Nat) : num (be n x) = x % 256 ^ n := by
  induction n with
  | zero => simp [be, num, Nat.mod_one]
  | succ n ih =>
    rw [be, num_cons, length_be, ih]
    have h := by8_toNat ((x : Int) / 2 ^ (8 * n))
    have e : ((x : Int) / 2 ^ (8 * n)) % 256 = ((x / 256 ^ n % 256 : Nat) : Int) := by
      rw [Int.natCast_emod, Int.natCast_ediv, ← pow256, Int.natCast_pow]; rfl
    rw [e] at h
    have h' : (by8 ((x : Int) / 2 ^ (8 * n))).toNat = x / 256 ^ n % 256 := by exact_mod_cast h
    rw [h', Nat.pow_succ, Nat.mod_mul]
    rw [Nat.mul_comm]
    omega
theorem eq_of_num : ∀ {l m : List UInt8}, l.length = m.length → num l = num m → l = m
  | [], [], _, _ => rfl
  | [], _ :: _, h, _ => by simp at h
  | _ :: _, [], h, _ => by simp at h
  | c :: l, d :: m, h, hn => by
    have hl : l.length = m.length := by simpa using h
    rw [num_cons, num_cons, hl] at hn
    have h1 := num_lt l
    have h2 := num_lt m
    rw [hl] at h1
    have hpos : 0 < 256 ^ m.length := Nat.pow_pos (by decide)
    have h3 : c.toNat = d.toNat := by
      have e1 : (c.toNat * 256 ^ m.length + num l) / 256 ^ m.length = c.toNat := by rw [Nat.add_comm, Nat.add_mul_div_right _ _ hpos, Nat.div_eq_of_lt h1]; omega
      have e2 : (d.toNat * 256 ^ m.length + num m) / 256 ^ m.length = d.toNat := by rw [Nat.add_comm, Nat.add_mul_div_right _ _ hpos, Nat.div_eq_of_lt h2]; omega
      rw [← e1, ← e2, hn]
    have h4 : c = d := UInt8.toNat_inj.1 h3
    subst h4
    rw [eq_of_num hl (by omega)]
theorem be_num {n : Nat} {l : List UInt8} (h : l.length = n) : be n (num l) = l := by
  subst h
  exact eq_of_num (by simp) (by rw [num_be, Nat.mod_eq_of_lt (num_lt l)])
theorem be_mod (n : Nat) (x : Int) : be n (x % 256 ^ n) = be n x := by
  have key : ∀ (m : Nat), m ≤ n → be m (x % 256 ^ n) = be m x := by
    intro m
    induction m with
    | zero => intro _; rfl
    | succ m ih =>
      intro hm
      rw [be, be, ih (by omega)]
      congr 1
      unfold by8
      congr 2
      have e : (2 : Int) ^ (8 * m) = 256 ^ m := by rw [Int.pow_mul]; rfl
      rw [e]
      have hp : (256 : Int) ^ n = 256 ^ m * (256 * 256 ^ (n - m - 1)) := by
        rw [← Int.pow_succ', ← Int.pow_add]; congr 1; omega
      have hpos : (0 : Int) < 256 ^ m := Int.pow_pos (by decide)
      have h1 := Int.emod_add_mul_ediv x (256 ^ m * (256 * 256 ^ (n - m - 1)))
      rw [hp]
      generalize x % (256 ^ m * (256 * 256 ^ (n - m - 1))) = r at h1
      generalize x / (256 ^ m * (256 * 256 ^ (n - m - 1))) = q at h1
      rw [← h1, Int.mul_assoc, Int.add_mul_ediv_left _ _ (by omega), Int.mul_assoc 256, Int.add_mul_emod_self_left]
  exact key n (Nat.le_refl n)
theorem be_get : ∀ (n : Nat) (x : Int) (j : Nat) (h : j < (be n x).length), (be n x)[j] = by8 (x / 2 ^ (8 * (n - 1 - j)))
  | 0, x, j, h => by simp at h
  | n + 1, x, 0, h => by simp [be]
  | n + 1, x, j + 1, h => by
    have h' : j < (be n x).length := by simpa [be] using h
    have e := be_get n x j h'
    have e2 : n + 1 - 1 - (j + 1) = n - 1 - j := by omega
    rw [e2, ← e]
    simp [be]
theorem be_take_succ (n : Nat) (x : Int) (j : Nat) (h : j < n) : (be n x).take (j + 1) = (be n x).take j ++ [by8 (x / 2 ^ (8 * (n - 1 - j)))] := by
  rw [List.take_succ_eq_append_getElem (by simpa using h), be_get]
theorem by8_of_eq {x y : Int} (h : x % 256 = y % 256) : by8 x = by8 y := by unfold by8; rw [h]
theorem num_take_succ {l : List UInt8} {j : Nat} (h : j < l.length) : num (l.take (j + 1)) = num (l.take j) * 256 + (l[j]).toNat := by
  rw [List.take_succ_eq_append_getElem h, num_snoc]
end Go.SL
