/- Types' rows asked of the kernel; integers within bounds; tests that are known. -/
import Derived.Test.YtejbbpofamfhiaaMem
namespace Go.SL
set_option linter.unusedVariables false
set_option linter.unusedSimpArgs false
open Go

theorem TI.mk {P : Program} {t s b : Nat} {zs : List Value} (h : (P.info? t).map (fun i => (i.size, i.bytes, i.zero.map Value.cells)) = some (s, b, some zs.toArray)) : TI P t s b zs := by
  obtain ⟨i, h1, h2⟩ := Option.map_eq_some_iff.1 h
  simp only [Prod.mk.injEq] at h2
  obtain ⟨z, h3, h4⟩ := Option.map_eq_some_iff.1 h2.2.2
  exact ⟨i, z, h1, h2.1, h2.2.1, h3, h4⟩
theorem AG.mk {P : Program} {t : Nat} {b : Bool} (h : (P.underlying t).map isAggD = some b) : AG P t b := h
theorem SZ.mk {P : Program} {t s : Nat} (h : (P.info? t).map (·.size) = some s) : SZ P t s := h
def structFields : TypeDesc → Option (Array Field)
  | .struct fs => some fs
  | _ => none
theorem structFields_eq {d : TypeDesc} {fs : Array Field} (h : structFields d = some fs) : d = .struct fs := by
  cases d <;> simp_all [structFields]
theorem FA.mk {P : Program} {s k off size : Nat} (h : (((P.underlying s).bind structFields).bind (·[k]?)).map (fun g => (g.offset, (P.info? g.type).map (·.size))) = some (off, some size)) : FA P s k off size := by
  obtain ⟨g, h1, h2⟩ := Option.map_eq_some_iff.1 h
  obtain ⟨fs, h3, h4⟩ := Option.bind_eq_some_iff.1 h1
  obtain ⟨d, h5, h6⟩ := Option.bind_eq_some_iff.1 h3
  simp only [Prod.mk.injEq] at h2
  exact ⟨fs, g, by rw [h5, structFields_eq h6], h4, h2.1, h2.2⟩
theorem FT.mk {P : Program} {s k off t : Nat} (h : (((P.underlying s).bind structFields).bind (·[k]?)).map (fun g => (g.offset, g.type)) = some (off, t)) : FT P s k off t := by
  obtain ⟨g, h1, h2⟩ := Option.map_eq_some_iff.1 h
  obtain ⟨fs, h3, h4⟩ := Option.bind_eq_some_iff.1 h1
  obtain ⟨d, h5, h6⟩ := Option.bind_eq_some_iff.1 h3
  simp only [Prod.mk.injEq] at h2
  exact ⟨fs, g, by rw [h5, structFields_eq h6], h4, h2.1, h2.2⟩

section
variable {P : Program} {op : Op} {ty : TypeId} {n : FN} {f : Nat → Value} {x y : Operand} {t yt : TypeId} {k k' : IntKind} {i j : Int}
theorem ps_t {p : Prop} [Decidable p] (hs : PS P op ty n f (.bool (decide p))) (h : p) : PS P op ty n f (.bool true) := by rwa [decide_eq_true h] at hs
theorem ps_f {p : Prop} [Decidable p] (hs : PS P op ty n f (.bool (decide p))) (h : ¬ p) : PS P op ty n f (.bool false) := by rwa [decide_eq_false h] at hs
/-- The same value, written otherwise. -/
theorem ps_to {v u : Value} (h : v = u) (hs : PS P op ty n f v) : PS P op ty n f u := h ▸ hs

theorem wrap_i64_id {a : Int} (h1 : -9223372036854775808 ≤ a) (h2 : a < 9223372036854775808) : IntKind.i64.wrap a = a := by rw [IntKind.wrap_i64]; omega
theorem wrap_u64_id {a : Int} (h1 : 0 ≤ a) (h2 : a < 18446744073709551616) : IntKind.u64.wrap a = a := by
  simp only [IntKind.wrap, IntKind.signed, IntKind.bits]
  simp; omega
theorem wrap_u64 (a : Int) : IntKind.u64.wrap a = a % 18446744073709551616 := by
  simp [IntKind.wrap, IntKind.signed, IntKind.bits]
theorem wrap_u8 (a : Int) : IntKind.u8.wrap a = a % 256 := by
  simp [IntKind.wrap, IntKind.signed, IntKind.bits]
theorem wrap_u32 (a : Int) : IntKind.u32.wrap a = a % 4294967296 := by
  simp [IntKind.wrap, IntKind.signed, IntKind.bits]
theorem wrap_u8_id {a : Int} (h1 : 0 ≤ a) (h2 : a < 256) : IntKind.u8.wrap a = a := by rw [wrap_u8]; omega
theorem wrap_u32_id {a : Int} (h1 : 0 ≤ a) (h2 : a < 4294967296) : IntKind.u32.wrap a = a := by rw [wrap_u32]; omega

theorem ps_add_i64 (hx : ev n f x = .int .i64 i) (hy : ev n f y = .int .i64 j) (h1 : -9223372036854775808 ≤ i + j) (h2 : i + j < 9223372036854775808) : PS P (.binOp .add t x y yt) ty n f (.int .i64 (i + j)) := ps_to (by rw [wrap_i64_id h1 h2]) (ps_add hx hy)
theorem ps_sub_i64 (hx : ev n f x = .int .i64 i) (hy : ev n f y = .int .i64 j) (h1 : -9223372036854775808 ≤ i - j) (h2 : i - j < 9223372036854775808) : PS P (.binOp .sub t x y yt) ty n f (.int .i64 (i - j)) := ps_to (by rw [wrap_i64_id h1 h2]) (ps_sub hx hy)
theorem ps_mul_i64 (hx : ev n f x = .int .i64 i) (hy : ev n f y = .int .i64 j) (h1 : -9223372036854775808 ≤ i * j) (h2 : i * j < 9223372036854775808) : PS P (.binOp .mul t x y yt) ty n f (.int .i64 (i * j)) := ps_to (by rw [wrap_i64_id h1 h2]) (ps_mul hx hy)
theorem ps_add_u64 (hx : ev n f x = .int .u64 i) (hy : ev n f y = .int .u64 j) (h1 : 0 ≤ i + j) (h2 : i + j < 18446744073709551616) : PS P (.binOp .add t x y yt) ty n f (.int .u64 (i + j)) := ps_to (by rw [wrap_u64_id h1 h2]) (ps_add hx hy)
theorem ps_sub_u64 (hx : ev n f x = .int .u64 i) (hy : ev n f y = .int .u64 j) (h1 : 0 ≤ i - j) (h2 : i - j < 18446744073709551616) : PS P (.binOp .sub t x y yt) ty n f (.int .u64 (i - j)) := ps_to (by rw [wrap_u64_id h1 h2]) (ps_sub hx hy)
theorem ps_mul_u64 (hx : ev n f x = .int .u64 i) (hy : ev n f y = .int .u64 j) (h1 : 0 ≤ i * j) (h2 : i * j < 18446744073709551616) : PS P (.binOp .mul t x y yt) ty n f (.int .u64 (i * j)) := ps_to (by rw [wrap_u64_id h1 h2]) (ps_mul hx hy)
theorem ps_add_u8 (hx : ev n f x = .int .u8 i) (hy : ev n f y = .int .u8 j) (h1 : 0 ≤ i + j) (h2 : i + j < 256) : PS P (.binOp .add t x y yt) ty n f (.int .u8 (i + j)) := ps_to (by rw [wrap_u8_id h1 h2]) (ps_add hx hy)
theorem ps_sub_u8 (hx : ev n f x = .int .u8 i) (hy : ev n f y = .int .u8 j) (h1 : 0 ≤ i - j) (h2 : i - j < 256) : PS P (.binOp .sub t x y yt) ty n f (.int .u8 (i - j)) := ps_to (by rw [wrap_u8_id h1 h2]) (ps_sub hx hy)
theorem ps_add_u32 (hx : ev n f x = .int .u32 i) (hy : ev n f y = .int .u32 j) (h1 : 0 ≤ i + j) (h2 : i + j < 4294967296) : PS P (.binOp .add t x y yt) ty n f (.int .u32 (i + j)) := ps_to (by rw [wrap_u32_id h1 h2]) (ps_add hx hy)
theorem ps_quo_i64 (hx : ev n f x = .int .i64 i) (hy : ev n f y = .int .i64 j) (h1 : 0 ≤ i ∧ i < 9223372036854775808) (h2 : 0 < j) : PS P (.binOp .quo t x y yt) ty n f (.int .i64 (i / j)) :=
  ps_to (by
    have h3 : i.tdiv j = i / j := Int.tdiv_eq_ediv_of_nonneg h1.1
    have h4 : 0 ≤ i / j := Int.ediv_nonneg h1.1 (Int.le_of_lt h2)
    have h5 : i / j ≤ i := Int.ediv_le_self j h1.1
    rw [h3, wrap_i64_id (by omega) (by omega)]) (ps_quo hx hy (by omega))
theorem ps_quo_u64 (hx : ev n f x = .int .u64 i) (hy : ev n f y = .int .u64 j) (h1 : 0 ≤ i ∧ i < 18446744073709551616) (h2 : 0 < j) : PS P (.binOp .quo t x y yt) ty n f (.int .u64 (i / j)) :=
  ps_to (by
    have h3 : i.tdiv j = i / j := Int.tdiv_eq_ediv_of_nonneg h1.1
    have h4 : 0 ≤ i / j := Int.ediv_nonneg h1.1 (Int.le_of_lt h2)
    have h5 : i / j ≤ i := Int.ediv_le_self j h1.1
    rw [h3, wrap_u64_id (by omega) (by omega)]) (ps_quo hx hy (by omega))
theorem ps_rem_pos (hx : ev n f x = .int k i) (hy : ev n f y = .int k j) (h1 : 0 ≤ i) (h2 : 0 < j) : PS P (.binOp .rem t x y yt) ty n f (.int k (i % j)) :=
  ps_to (by rw [Int.tmod_eq_emod_of_nonneg h1]) (ps_rem hx hy (by omega))

theorem mask_nat (a : Int) (m w : Nat) (h : m ≤ w) : ((BitVec.ofInt w a &&& BitVec.ofInt w ((2 ^ m - 1 : Nat) : Int)).toNat : Int) = a % ((2 ^ m : Nat) : Int) := by
  have hp : 2 ^ m ≤ 2 ^ w := Nat.pow_le_pow_right (by decide) h
  have hpos : 0 < 2 ^ m := Nat.two_pow_pos m
  have hlt : 2 ^ m - 1 < 2 ^ w := by omega
  have e2 : (BitVec.ofInt w ((2 ^ m - 1 : Nat) : Int)).toNat = 2 ^ m - 1 := by
    rw [BitVec.toNat_ofInt]
    have : (((2 ^ m - 1 : Nat) : Int) % ((2 ^ w : Nat) : Int)) = ((2 ^ m - 1 : Nat) : Int) := Int.emod_eq_of_lt (by omega) (by exact_mod_cast hlt)
    rw [this]; simp
  rw [BitVec.toNat_and, e2, Nat.and_two_pow_sub_one_eq_mod, BitVec.toNat_ofInt]
  have hdvd : ((2 ^ m : Nat) : Int) ∣ ((2 ^ w : Nat) : Int) := by exact_mod_cast Nat.pow_dvd_pow 2 h
  have hnn : 0 ≤ a % ((2 ^ w : Nat) : Int) := Int.emod_nonneg _ (by have := Nat.two_pow_pos w; omega)
  have e3 : (((a % ((2 ^ w : Nat) : Int)).toNat % 2 ^ m : Nat) : Int) = (a % ((2 ^ w : Nat) : Int)) % ((2 ^ m : Nat) : Int) := by
    rw [Int.natCast_emod, Int.toNat_of_nonneg hnn]
  rw [e3, Int.emod_emod_of_dvd _ hdvd]

theorem ps_mask_i64 {m : Nat} (hx : ev n f x = .int .i64 i) (hy : ev n f y = .int .i64 j) (hj : j = ((2 ^ m - 1 : Nat) : Int)) (hm : m ≤ 62) : PS P (.binOp .and t x y yt) ty n f (.int .i64 (i % ((2 ^ m : Nat) : Int))) :=
  ps_to (by
    have hpos : 0 < 2 ^ m := Nat.two_pow_pos m
    have hle : 2 ^ m ≤ 2 ^ 62 := Nat.pow_le_pow_right (by decide) hm
    have h1 := Int.emod_nonneg i (b := ((2 ^ m : Nat) : Int)) (by omega)
    have h2 := Int.emod_lt_of_pos i (b := ((2 ^ m : Nat) : Int)) (by omega)
    have e := mask_nat i m 64 (by omega)
    rw [← hj] at e
    show Value.int .i64 (IntKind.i64.wrap ((BitVec.ofInt 64 i &&& BitVec.ofInt 64 j).toNat : Int)) = _
    rw [e, wrap_i64_id (by omega) (by omega)]) (ps_and hx hy)
theorem ps_mask_u64 {m : Nat} (hx : ev n f x = .int .u64 i) (hy : ev n f y = .int .u64 j) (hj : j = ((2 ^ m - 1 : Nat) : Int)) (hm : m ≤ 63) : PS P (.binOp .and t x y yt) ty n f (.int .u64 (i % ((2 ^ m : Nat) : Int))) :=
  ps_to (by
    have hpos : 0 < 2 ^ m := Nat.two_pow_pos m
    have hle : 2 ^ m ≤ 2 ^ 63 := Nat.pow_le_pow_right (by decide) hm
    have h1 := Int.emod_nonneg i (b := ((2 ^ m : Nat) : Int)) (by omega)
    have h2 := Int.emod_lt_of_pos i (b := ((2 ^ m : Nat) : Int)) (by omega)
    have e := mask_nat i m 64 (by omega)
    rw [← hj] at e
    show Value.int .u64 (IntKind.u64.wrap ((BitVec.ofInt 64 i &&& BitVec.ofInt 64 j).toNat : Int)) = _
    rw [e, wrap_u64_id (by omega) (by omega)]) (ps_and hx hy)
end
theorem or_nat (w a b : Nat) (ha : a < 2 ^ w) (hb : b < 2 ^ w) : (BitVec.ofInt w (a : Int) ||| BitVec.ofInt w (b : Int)).toNat = a ||| b := by
  rw [BitVec.toNat_or, BitVec.ofInt_natCast, BitVec.ofInt_natCast, BitVec.toNat_ofNat, BitVec.toNat_ofNat, Nat.mod_eq_of_lt ha, Nat.mod_eq_of_lt hb]
theorem or_low (a b k : Nat) (h : b < 2 ^ k) : (a * 2 ^ k) ||| b = a * 2 ^ k + b := by
  rw [Nat.mul_comm]; exact (Nat.two_pow_add_eq_or_of_lt h a).symm
section
variable {P : Program} {ty : TypeId} {n : FN} {f : Nat → Value} {x y : Operand} {t yt : TypeId}
theorem ps_orN_u64 (a b : Nat) (hx : ev n f x = .int .u64 (a : Int)) (hy : ev n f y = .int .u64 (b : Int)) (ha : a < 18446744073709551616) (hb : b < 18446744073709551616) : PS P (.binOp .or t x y yt) ty n f (.int .u64 ((a ||| b : Nat) : Int)) :=
  ps_to (by
    have h := or_nat 64 a b ha hb
    have hl : a ||| b < 2 ^ 64 := Nat.or_lt_two_pow ha hb
    show Value.int .u64 (IntKind.u64.wrap ((BitVec.ofInt 64 (a : Int) ||| BitVec.ofInt 64 (b : Int)).toNat : Int)) = _
    rw [h, wrap_u64_id (by omega) (by omega)]) (ps_or hx hy)
theorem ps_orN_i64 (a b : Nat) (hx : ev n f x = .int .i64 (a : Int)) (hy : ev n f y = .int .i64 (b : Int)) (ha : a < 9223372036854775808) (hb : b < 9223372036854775808) : PS P (.binOp .or t x y yt) ty n f (.int .i64 ((a ||| b : Nat) : Int)) :=
  ps_to (by
    have h := or_nat 64 a b (by omega) (by omega)
    have hl : a ||| b < 2 ^ 63 := Nat.or_lt_two_pow ha hb
    show Value.int .i64 (IntKind.i64.wrap ((BitVec.ofInt 64 (a : Int) ||| BitVec.ofInt 64 (b : Int)).toNat : Int)) = _
    rw [h, wrap_i64_id (by omega) (by omega)]) (ps_or hx hy)
/-- 'x << 8 | c', the two steps. -/
theorem ps_shlN_u64 {k' : IntKind} {j : Int} (a k : Nat) (hx : ev n f x = .int .u64 (a : Int)) (hy : ev n f y = .int k' j) (hj : j = (k : Int)) (hk : k ≤ 64) (ha : a * 2 ^ k < 18446744073709551616) : PS P (.binOp .shl t x y yt) ty n f (.int .u64 ((a * 2 ^ k : Nat) : Int)) :=
  ps_to (by
    subst hj
    have e : (a : Int) * 2 ^ (min ((k : Int)).toNat (IntKind.u64.bits)) = ((a * 2 ^ k : Nat) : Int) := by
      rw [show min ((k : Int)).toNat (IntKind.u64.bits) = k by show min ((k : Int)).toNat 64 = k; omega]; push_cast; rfl
    rw [e, wrap_u64_id (by omega) (by omega)]) (ps_shl hx hy (by omega))
theorem ps_shlN_i64 {k' : IntKind} {j : Int} (a k : Nat) (hx : ev n f x = .int .i64 (a : Int)) (hy : ev n f y = .int k' j) (hj : j = (k : Int)) (hk : k ≤ 64) (ha : a * 2 ^ k < 9223372036854775808) : PS P (.binOp .shl t x y yt) ty n f (.int .i64 ((a * 2 ^ k : Nat) : Int)) :=
  ps_to (by
    subst hj
    have e : (a : Int) * 2 ^ (min ((k : Int)).toNat (IntKind.i64.bits)) = ((a * 2 ^ k : Nat) : Int) := by
      rw [show min ((k : Int)).toNat (IntKind.i64.bits) = k by show min ((k : Int)).toNat 64 = k; omega]; push_cast; rfl
    rw [e, wrap_i64_id (by omega) (by omega)]) (ps_shl hx hy (by omega))
end
section
variable {P : Program} {ty : TypeId} {n : FN} {f : Nat → Value} {x y : Operand} {t yt : TypeId} {k k' : IntKind} {j : Int}
theorem fdiv_pow' (a s : Nat) : ((a : Nat) : Int).fdiv (2 ^ s) = ((a / 2 ^ s : Nat) : Int) := by
  rw [Int.fdiv_eq_ediv_of_nonneg _ (by exact_mod_cast Nat.zero_le _)]
  push_cast; rfl
theorem ps_shrN (a s : Nat) (hx : ev n f x = .int k (a : Int)) (hy : ev n f y = .int k' j) (hj : j = (s : Int)) (hs : s ≤ k.bits) : PS P (.binOp .shr t x y yt) ty n f (.int k ((a / 2 ^ s : Nat) : Int)) :=
  ps_to (by
    subst hj
    rw [show min ((s : Int)).toNat k.bits = s by rw [Int.toNat_natCast]; exact Nat.min_eq_left hs, fdiv_pow']) (ps_shr hx hy (by omega))
theorem ps_shlM (a s m : Nat) (hx : ev n f x = .int .u64 (a : Int)) (hy : ev n f y = .int k' j) (hj : j = (s : Int)) (hs : s ≤ 64) (hm : 2 ^ s = m) : PS P (.binOp .shl t x y yt) ty n f (.int .u64 ((a * m % 18446744073709551616 : Nat) : Int)) :=
  ps_to (by
    subst hj; subst hm
    have e : (a : Int) * 2 ^ (min ((s : Int)).toNat (IntKind.u64.bits)) = ((a * 2 ^ s : Nat) : Int) := by
      rw [show min ((s : Int)).toNat (IntKind.u64.bits) = s by show min ((s : Int)).toNat 64 = s; omega]; push_cast; rfl
    rw [e, wrap_u64]; rfl) (ps_shl hx hy (by omega))
/-- The value, told in natural numbers. -/
theorem nat_u64 {a : Int} {b : Nat} (h : a % 18446744073709551616 = (b : Int)) : Value.int .u64 (IntKind.u64.wrap a) = .int .u64 (b : Int) := by rw [wrap_u64, h]
end
theorem wrap_u8_byte (n : Int) : ∃ c : UInt8, IntKind.u8.wrap n = ((c.toNat : Nat) : Int) := by
  have h : 0 ≤ n % 256 ∧ n % 256 < 256 := ⟨Int.emod_nonneg _ (by decide), Int.emod_lt_of_pos _ (by decide)⟩
  refine ⟨UInt8.ofNat (n % 256).toNat, ?_⟩
  have e : IntKind.u8.wrap n = n % 256 := by simp [IntKind.wrap, IntKind.signed, IntKind.bits]
  rw [e, UInt8.toNat_ofNat']
  omega
end Go.SL
