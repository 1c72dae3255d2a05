/- Numbers of 64 bits: one law per operation; between 32 and 64 bits. -/
import Derived.Test.YtcfipblnaifbhaaDoorU32
namespace Go.SL
set_option linter.unusedVariables false
set_option linter.unusedSimpArgs false
open Go

abbrev w64 (x : UInt64) : Value := .int .u64 ((x.toNat : Nat) : Int)
section
variable {P : Program} {ty : TypeId} {n : FN} {f : Nat → Value} {x y : Operand} {t yt : TypeId} {k' : IntKind} {j : Int}
theorem bits64 (a : UInt64) : BitVec.ofInt 64 ((a.toNat : Nat) : Int) = a.toBitVec := by
  apply BitVec.eq_of_toNat_eq
  rw [BitVec.ofInt_natCast, BitVec.toNat_ofNat, Nat.mod_eq_of_lt a.toNat_lt]
  rfl
theorem ps64_add (a b : UInt64) (hx : ev n f x = w64 a) (hy : ev n f y = w64 b) : PS P (.binOp .add t x y yt) ty n f (w64 (a + b)) :=
  ps_to (by
    show Value.int .u64 (IntKind.u64.wrap _) = Value.int .u64 _
    rw [wrap_u64, UInt64.toNat_add]; congr 1) (ps_add hx hy)
theorem ps64_mul (a b : UInt64) (hx : ev n f x = w64 a) (hy : ev n f y = w64 b) : PS P (.binOp .mul t x y yt) ty n f (w64 (a * b)) :=
  ps_to (by
    show Value.int .u64 (IntKind.u64.wrap _) = Value.int .u64 _
    rw [wrap_u64, UInt64.toNat_mul]; congr 1) (ps_mul hx hy)
theorem ps64_and (a b : UInt64) (hx : ev n f x = w64 a) (hy : ev n f y = w64 b) : PS P (.binOp .and t x y yt) ty n f (w64 (a &&& b)) :=
  ps_to (by
    show Value.int .u64 (IntKind.u64.wrap ((BitVec.ofInt 64 _ &&& BitVec.ofInt 64 _).toNat : Int)) = Value.int .u64 _
    rw [bits64, bits64]
    have h := (a &&& b).toNat_lt
    have e : (a.toBitVec &&& b.toBitVec).toNat = (a &&& b).toNat := rfl
    rw [e, wrap_u64_id (by omega) (by omega)]) (ps_and hx hy)
theorem ps64_shr (a : UInt64) (s : Nat) (hx : ev n f x = w64 a) (hy : ev n f y = .int k' j) (hj : j = (s : Int)) (hs : s < 64) : PS P (.binOp .shr t x y yt) ty n f (w64 (a >>> UInt64.ofNat s)) :=
  ps_to (by
    show Value.int .u64 _ = Value.int .u64 (((a >>> UInt64.ofNat s).toNat : Nat) : Int)
    rw [UInt64.toNat_shiftRight, UInt64.toNat_ofNat', Nat.mod_eq_of_lt (by omega : s < 2 ^ 64), Nat.mod_eq_of_lt hs, Nat.shiftRight_eq_div_pow]) (ps_shrN a.toNat s hx hy hj (by show s ≤ 64; omega))
theorem ps64_shl (a : UInt64) (s : Nat) (hx : ev n f x = w64 a) (hy : ev n f y = .int k' j) (hj : j = (s : Int)) (hs : s < 64) : PS P (.binOp .shl t x y yt) ty n f (w64 (a <<< UInt64.ofNat s)) :=
  ps_to (by
    subst hj
    show Value.int .u64 (IntKind.u64.wrap _) = Value.int .u64 _
    have e : (a.toNat : Int) * 2 ^ (min ((s : Int)).toNat (IntKind.u64.bits)) = ((a.toNat * 2 ^ s : Nat) : Int) := by
      rw [show min ((s : Int)).toNat (IntKind.u64.bits) = s by show min ((s : Int)).toNat 64 = s; omega]; push_cast; rfl
    rw [e, wrap_u64, UInt64.toNat_shiftLeft, UInt64.toNat_ofNat', Nat.mod_eq_of_lt (by omega : s < 2 ^ 64), Nat.mod_eq_of_lt hs, Nat.shiftLeft_eq]
    congr 1) (ps_shl hx hy (by omega))
theorem ps64_of32 {d : TypeId} (a : UInt32) (hs : (P.underlying t).isSome = true) (hd : P.underlying d = some (.int .u64)) (hx : ev n f x = w32 a) : PS P (.convert t d x) ty n f (w64 a.toUInt64) :=
  ps_to (by
    have h := a.toNat_lt
    show Value.int .u64 (IntKind.u64.wrap _) = Value.int .u64 _
    rw [wrap_u64_id (by omega) (by omega), UInt32.toNat_toUInt64]) (ps_conv hs hd hx)
theorem ps64_to32 {d : TypeId} (a : UInt64) (hs : (P.underlying t).isSome = true) (hd : P.underlying d = some (.int .u32)) (hx : ev n f x = w64 a) : PS P (.convert t d x) ty n f (w32 a.toUInt32) :=
  ps_to (by
    show Value.int .u32 (IntKind.u32.wrap _) = Value.int .u32 _
    rw [wrap_u32, UInt64.toNat_toUInt32]; congr 1) (ps_conv hs hd hx)
theorem ps32_t_neq (a b : UInt32) (hx : ev n f x = w32 a) (hy : ev n f y = w32 b) : PS P (.binOp .neq t x y yt) ty n f (.bool (decide (a ≠ b))) :=
  ps_to (by
    congr 1
    rw [decide_eq_decide]
    refine not_congr ⟨fun h => UInt32.toNat_inj.1 (Int.ofNat_inj.1 h), fun h => by rw [h]⟩) (ps_neq hx hy)
theorem ps32_gtr (a b : UInt32) (hx : ev n f x = w32 a) (hy : ev n f y = w32 b) : PS P (.binOp .gtr t x y yt) ty n f (.bool (decide (b < a))) :=
  ps_to (by
    congr 1
    rw [decide_eq_decide, UInt32.lt_iff_toNat_lt]
    exact Int.ofNat_lt) (ps_gtr hx hy)
end
end Go.SL
