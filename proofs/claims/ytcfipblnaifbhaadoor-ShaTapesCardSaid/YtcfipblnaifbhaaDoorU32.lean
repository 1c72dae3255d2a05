/- Numbers of 32 bits: one law per operation. -/
import Derived.Test.YtcfipblnaifbhaaDoorAri
namespace Go.SL
set_option linter.unusedVariables false
set_option linter.unusedSimpArgs false
open Go

abbrev w32 (x : UInt32) : Value := .int .u32 ((x.toNat : Nat) : Int)
def wv (l : List UInt32) : List Value := l.map w32
@[simp] theorem length_wv (l : List UInt32) : (wv l).length = l.length := by simp [wv]
theorem wv_one (l : List UInt32) : ∀ u ∈ wv l, u.oneCell' = true := fun u hu => by
  obtain ⟨x, _, rfl⟩ := List.mem_map.1 hu; rfl
section
variable {P : Program} {ty : TypeId} {n : FN} {f : Nat → Value} {x y : Operand} {t yt : TypeId} {k' : IntKind} {j : Int}
theorem bits32 (a : UInt32) : BitVec.ofInt 32 ((a.toNat : Nat) : Int) = a.toBitVec := by
  apply BitVec.eq_of_toNat_eq
  rw [BitVec.ofInt_natCast, BitVec.toNat_ofNat, Nat.mod_eq_of_lt a.toNat_lt]
  rfl
theorem ps32_add (a b : UInt32) (hx : ev n f x = w32 a) (hy : ev n f y = w32 b) : PS P (.binOp .add t x y yt) ty n f (w32 (a + b)) :=
  ps_to (by
    show Value.int .u32 (IntKind.u32.wrap _) = Value.int .u32 _
    rw [wrap_u32, UInt32.toNat_add]; congr 1) (ps_add hx hy)
theorem ps32_and (a b : UInt32) (hx : ev n f x = w32 a) (hy : ev n f y = w32 b) : PS P (.binOp .and t x y yt) ty n f (w32 (a &&& b)) :=
  ps_to (by
    show Value.int .u32 (IntKind.u32.wrap ((BitVec.ofInt 32 _ &&& BitVec.ofInt 32 _).toNat : Int)) = Value.int .u32 _
    rw [bits32, bits32]
    have h := (a &&& b).toNat_lt
    have e : (a.toBitVec &&& b.toBitVec).toNat = (a &&& b).toNat := rfl
    rw [e, wrap_u32_id (by omega) (by omega)]) (ps_and hx hy)
theorem ps32_or (a b : UInt32) (hx : ev n f x = w32 a) (hy : ev n f y = w32 b) : PS P (.binOp .or t x y yt) ty n f (w32 (a ||| b)) :=
  ps_to (by
    show Value.int .u32 (IntKind.u32.wrap ((BitVec.ofInt 32 _ ||| BitVec.ofInt 32 _).toNat : Int)) = Value.int .u32 _
    rw [bits32, bits32]
    have h := (a ||| b).toNat_lt
    have e : (a.toBitVec ||| b.toBitVec).toNat = (a ||| b).toNat := rfl
    rw [e, wrap_u32_id (by omega) (by omega)]) (ps_or hx hy)
theorem ps32_xor (a b : UInt32) (hx : ev n f x = w32 a) (hy : ev n f y = w32 b) : PS P (.binOp .xor t x y yt) ty n f (w32 (a ^^^ b)) :=
  ps_to (by
    show Value.int .u32 (IntKind.u32.wrap ((BitVec.ofInt 32 _ ^^^ BitVec.ofInt 32 _).toNat : Int)) = Value.int .u32 _
    rw [bits32, bits32]
    have h := (a ^^^ b).toNat_lt
    have e : (a.toBitVec ^^^ b.toBitVec).toNat = (a ^^^ b).toNat := rfl
    rw [e, wrap_u32_id (by omega) (by omega)]) (ps_xor hx hy)
theorem ps32_com (a : UInt32) (hx : ev n f x = w32 a) : PS P (.unOp .xor t x) ty n f (w32 (~~~a)) :=
  ps_to (by
    show Value.int .u32 (IntKind.u32.wrap ((BitVec.ofInt 32 (4294967295 : Int) ^^^ BitVec.ofInt 32 _).toNat : Int)) = Value.int .u32 _
    rw [bits32]
    have h := (~~~a).toNat_lt
    have e : (BitVec.ofInt 32 (4294967295 : Int) ^^^ a.toBitVec).toNat = (~~~a).toNat := by
      have : BitVec.ofInt 32 (4294967295 : Int) ^^^ a.toBitVec = ~~~a.toBitVec := by
        rw [show BitVec.ofInt 32 (4294967295 : Int) = BitVec.allOnes 32 by decide, BitVec.allOnes_xor]
      rw [this]; rfl
    rw [e, wrap_u32_id (by omega) (by omega)]) (ps_com hx)
/-- 'x >> s', 's' told. -/
theorem ps32_shr (a : UInt32) (s : Nat) (hx : ev n f x = w32 a) (hy : ev n f y = .int k' j) (hj : j = (s : Int)) (hs : s < 32) : PS P (.binOp .shr t x y yt) ty n f (w32 (a >>> UInt32.ofNat s)) :=
  ps_to (by
    show Value.int .u32 _ = Value.int .u32 (((a >>> UInt32.ofNat s).toNat : Nat) : Int)
    rw [UInt32.toNat_shiftRight, UInt32.toNat_ofNat', Nat.mod_eq_of_lt (by omega : s < 2 ^ 32), Nat.mod_eq_of_lt hs, Nat.shiftRight_eq_div_pow]) (ps_shrN a.toNat s hx hy hj (by show s ≤ 32; omega))
theorem ps32_shl (a : UInt32) (s : Nat) (hx : ev n f x = w32 a) (hy : ev n f y = .int k' j) (hj : j = (s : Int)) (hs : s < 32) : PS P (.binOp .shl t x y yt) ty n f (w32 (a <<< UInt32.ofNat s)) :=
  ps_to (by
    subst hj
    show Value.int .u32 (IntKind.u32.wrap _) = Value.int .u32 _
    have e : (a.toNat : Int) * 2 ^ (min ((s : Int)).toNat (IntKind.u32.bits)) = ((a.toNat * 2 ^ s : Nat) : Int) := by
      rw [show min ((s : Int)).toNat (IntKind.u32.bits) = s by show min ((s : Int)).toNat 32 = s; omega]; push_cast; rfl
    rw [e, wrap_u32, UInt32.toNat_shiftLeft, UInt32.toNat_ofNat', Nat.mod_eq_of_lt (by omega : s < 2 ^ 32), Nat.mod_eq_of_lt hs, Nat.shiftLeft_eq]
    congr 1) (ps_shl hx hy (by omega))
/-- A byte as 32 bits. -/
theorem ps32_conv8 {d : TypeId} (c : UInt8) (hs : (P.underlying t).isSome = true) (hd : P.underlying d = some (.int .u32)) (hx : ev n f x = .int .u8 (c.toNat : Int)) : PS P (.convert t d x) ty n f (w32 (UInt32.ofNat c.toNat)) :=
  ps_to (by
    have h := c.toNat_lt
    show Value.int .u32 (IntKind.u32.wrap _) = Value.int .u32 _
    rw [wrap_u32_id (by omega) (by omega), UInt32.toNat_ofNat', Nat.mod_eq_of_lt (by omega)]) (ps_conv hs hd hx)
/-- The lowest byte. -/
theorem ps32_low {d : TypeId} (a : UInt32) (hs : (P.underlying t).isSome = true) (hd : P.underlying d = some (.int .u8)) (hx : ev n f x = w32 a) : PS P (.convert t d x) ty n f (.int .u8 ((UInt8.ofNat a.toNat).toNat : Int)) :=
  ps_to (by
    show Value.int .u8 (IntKind.u8.wrap _) = Value.int .u8 _
    rw [wrap_u8, UInt8.toNat_ofNat']; congr 1) (ps_conv hs hd hx)
end
end Go.SL
