/- The operations that turn no memory, one law each: what they yield, in every world. -/
import Derived.Test.YtejbbpofamfhiaaCore
namespace Go.SL
set_option linter.unusedVariables false
set_option linter.unusedSimpArgs false
open Go

/-- A type's row: size in cells, bytes, the zero's cells. -/
def TI (P : Program) (t : TypeId) (size bytes : Nat) (zs : List Value) : Prop :=
  ∃ i z, P.info? t = some i ∧ i.size = size ∧ i.bytes = bytes ∧ i.zero = some z ∧ z.cells = zs.toArray
def isAggD : TypeDesc → Bool
  | .struct _ | .array _ _ => true
  | _ => false
/-- Is a variable of the type a row of cells (a struct, an array)? -/
def AG (P : Program) (t : TypeId) (b : Bool) : Prop := (P.underlying t).map isAggD = some b
/-- A field: its place, its type's size. -/
def FA (P : Program) (s : TypeId) (k off size : Nat) : Prop :=
  ∃ fs g, P.underlying s = some (.struct fs) ∧ fs[k]? = some g ∧ g.offset = off ∧ (P.info? g.type).map (·.size) = some size
def SZ (P : Program) (t : TypeId) (size : Nat) : Prop := (P.info? t).map (·.size) = some size

section
variable {P : Program} {w : World}
theorem run_typeInfo {t : TypeId} {i : TypeInfo} (h : P.info? t = some i) (w : World) : (typeInfo t).run P w = .ok i w := by simp [typeInfo, h]
theorem run_sizeOf {t : TypeId} {s : Nat} (h : SZ P t s) (w : World) : (sizeOf t).run P w = .ok s w := by
  obtain ⟨i, h1, h2⟩ := Option.map_eq_some_iff.1 h
  simp [sizeOf, run_typeInfo h1, h2]
theorem TI.sz {t : TypeId} {s b : Nat} {zs : List Value} (h : TI P t s b zs) : SZ P t s := by
  obtain ⟨i, z, h1, h2, _⟩ := h
  simp [SZ, h1, h2]
theorem run_isAgg {t : TypeId} {b : Bool} (h : AG P t b) (w : World) : (isAgg t).run P w = .ok b w := by
  obtain ⟨d, h1, h2⟩ := Option.map_eq_some_iff.1 h
  simp only [isAgg, Sem.run_bind, run_underlying h1, Result.andThen_ok]
  cases d <;> simp_all [isAggD]
theorem run_zeroCells {t : TypeId} {s b : Nat} {zs : List Value} (h : TI P t s b zs) (w : World) : ∃ z, (zeroValue t).run P w = .ok z w ∧ z.cells = zs.toArray := by
  obtain ⟨i, z, h1, _, _, h4, h5⟩ := h
  exact ⟨z, by simp [zeroValue, run_typeInfo h1, h4], h5⟩
theorem add_mk (b o k : Nat) : (⟨b, o, none⟩ : Addr).add k = ⟨b, o + k, none⟩ := by
  unfold Addr.add
  split
  · rename_i h; subst h; rfl
  · rfl
end

section
variable {P : Program} {ty : TypeId} {n : FN} {f : Nat → Value}

theorem ps_move {x : Operand} {v : Value} (h : ev n f x = v) : PS P (.move x) ty n f v := fun o ho _ w => by simp [execOp, ho, h]
theorem ps_assign {x : Operand} {v : Value} (h : ev n f x = v) : PS P (.assign x) ty n f v := fun o ho _ w => by simp [execOp, ho, h]
theorem ps_pick_t {c a b : Operand} {v : Value} (hc : ev n f c = .bool true) (h : ev n f a = v) : PS P (.pick c a b) ty n f v := fun o ho _ w => by simp [execOp, ho, h, hc, asBool]
theorem ps_pick_f {c a b : Operand} {v : Value} (hc : ev n f c = .bool false) (h : ev n f b = v) : PS P (.pick c a b) ty n f v := fun o ho _ w => by simp [execOp, ho, h, hc, asBool]
theorem ps_nil {x : Operand} {a : Addr} (h : ev n f x = .pointer (some a)) : PS P (.nilCheck x) ty n f (.pointer (some a)) := fun o ho _ w => by simp [execOp, ho, h]
theorem ps_nilf {x : Operand} {g : FuncId} {a b : Array Value} (h : ev n f x = .func (.func g) a b) : PS P (.nilCheck x) ty n f (.func (.func g) a b) := fun o ho _ w => by simp [execOp, ho, h]
theorem ps_fa {s : TypeId} {x : Operand} {k off size b o : Nat} (hf : FA P s k off size) (hs : size ≠ 0) (h : ev n f x = .pointer (some ⟨b, o, none⟩)) : PS P (.fieldAddr s x k) ty n f (.pointer (some ⟨b, o + off, none⟩)) := fun o' ho _ w => by
  obtain ⟨fs, g, h1, h2, h3, h4⟩ := hf
  subst h3
  simp [execOp, ho, h, Instr.fieldAt, run_underlying h1, h2, Instr.sureAddr, fieldPlace, run_sizeOf h4, hs, add_mk]
theorem ps_ia_slice {t e : TypeId} {x i : Operand} {s b o len cap : Nat} {k : IntKind} {j : Int} (ht : P.underlying t = some (.slice e)) (hs : SZ P e s) (h : ev n f x = .slice (some ⟨b, o, none⟩) len cap)
    (hi : ev n f i = .int k j) (h0 : 0 ≤ j) (h1 : j < len) : PS P (.indexAddr t x i) ty n f (.pointer (some ⟨b, o + j.toNat * s, none⟩)) := fun o' ho _ w => by
  simp [execOp, ho, h, hi, Instr.indexAt, run_underlying ht, asIntOf, h0, h1, run_sizeOf hs, add_mk]
theorem ps_ia_arr {t e : TypeId} {x i : Operand} {s b o len : Nat} {k : IntKind} {j : Int} (ht : P.underlying t = some (.array len e)) (hs : SZ P e s) (h : ev n f x = .pointer (some ⟨b, o, none⟩))
    (hi : ev n f i = .int k j) (h0 : 0 ≤ j) (h1 : j < len) : PS P (.indexAddr t x i) ty n f (.pointer (some ⟨b, o + j.toNat * s, none⟩)) := fun o' ho _ w => by
  simp [execOp, ho, h, hi, Instr.indexAt, run_underlying ht, asIntOf, h0, h1, run_sizeOf hs, add_mk, Instr.sureAddr]

/-! slices of slices -/
def cutOff (o l m s : Nat) (l' : Nat) : Nat := if m = l then o else o + l' * s
theorem cutOff_zero (o l m s : Nat) : cutOff o l m s 0 = o := by simp [cutOff]
theorem cutOff_ne {o l m s l' : Nat} (h : m ≠ l) : cutOff o l m s l' = o + l' * s := by simp [cutOff, h]

theorem sl_val (b o s l h m : Nat) : Value.slice ((if m = l then some (⟨b, o, none⟩ : Addr) else (some (⟨b, o, none⟩ : Addr)).map (·.add (l * s)))) (h - l) (m - l) = .slice (some ⟨b, cutOff o l m s l, none⟩) (h - l) (m - l) := by
  simp only [cutOff, Option.map_some, add_mk]
  split <;> rfl
theorem sl_val' (b o s l h m : Nat) : Value.slice (some (if m = l then (⟨b, o, none⟩ : Addr) else (⟨b, o, none⟩ : Addr).add (l * s))) (h - l) (m - l) = .slice (some ⟨b, cutOff o l m s l, none⟩) (h - l) (m - l) := by
  simp only [cutOff, add_mk]
  split <;> rfl

variable {t e : TypeId} {x : Operand} {s b o len cap : Nat}
theorem add0 (a : Addr) : a.add 0 = a := rfl
theorem map_add0 (pa : Option Addr) : pa.map (fun a => a.add 0) = pa := by cases pa <;> rfl
theorem ps_sl_all {pa : Option Addr} (ht : P.underlying t = some (.slice e)) (hs : SZ P e s) (h : ev n f x = .slice pa len cap) : PS P (.slice t x none none none) ty n f (.slice pa len cap) := fun o' ho _ w => by
  simp [execOp, ho, h, Instr.sliceAt, Instr.slice, run_underlying ht, Instr.sliceBounds, run_sizeOf hs, map_add0]
theorem ps_sl_h {pa : Option Addr} {hi : Operand} {k : IntKind} {j : Int} (ht : P.underlying t = some (.slice e)) (hs : SZ P e s) (h : ev n f x = .slice pa len cap) (hj : ev n f hi = .int k j) (h0 : 0 ≤ j) (h1 : j ≤ cap) :
    PS P (.slice t x none (some hi) none) ty n f (.slice pa j.toNat cap) := fun o' ho _ w => by
  simp [execOp, ho, h, hj, Instr.sliceAt, Instr.slice, run_underlying ht, Instr.sliceBounds, Instr.sliceBound, asIntOf, h0, h1, run_sizeOf hs, map_add0]
theorem ps_sl_l {lo : Operand} {k : IntKind} {j : Int} (ht : P.underlying t = some (.slice e)) (hs : SZ P e s) (h : ev n f x = .slice (some ⟨b, o, none⟩) len cap) (hj : ev n f lo = .int k j) (h0 : 0 ≤ j) (h1 : j ≤ len) :
    PS P (.slice t x (some lo) none none) ty n f (.slice (some ⟨b, cutOff o j.toNat cap s j.toNat, none⟩) (len - j.toNat) (cap - j.toNat)) := fun o' ho _ w => by
  simp [execOp, ho, h, hj, Instr.sliceAt, Instr.slice, run_underlying ht, Instr.sliceBounds, Instr.sliceBound, asIntOf, h0, h1, run_sizeOf hs, ← sl_val]
theorem ps_sl_lh {lo hi : Operand} {k k' : IntKind} {j j' : Int} (ht : P.underlying t = some (.slice e)) (hs : SZ P e s) (h : ev n f x = .slice (some ⟨b, o, none⟩) len cap) (hj : ev n f lo = .int k j) (hj' : ev n f hi = .int k' j')
    (h0 : 0 ≤ j) (h1 : j ≤ j') (h2 : j' ≤ cap) :
    PS P (.slice t x (some lo) (some hi) none) ty n f (.slice (some ⟨b, cutOff o j.toNat cap s j.toNat, none⟩) (j'.toNat - j.toNat) (cap - j.toNat)) := fun o' ho _ w => by
  have h3 : 0 ≤ j' := by omega
  have h4 : ¬ max j' 0 < j := by omega
  simp [execOp, ho, h, hj, hj', Instr.sliceAt, Instr.slice, run_underlying ht, Instr.sliceBounds, Instr.sliceBound, asIntOf, h0, h2, h3, run_sizeOf hs, ← sl_val]
  exact fun hc => absurd hc h4
theorem ps_sl_hm {hi mx : Operand} {k k' : IntKind} {j j' : Int} (ht : P.underlying t = some (.slice e)) (hs : SZ P e s) (h : ev n f x = .slice (some ⟨b, o, none⟩) len cap) (hj : ev n f hi = .int k j) (hj' : ev n f mx = .int k' j')
    (h0 : 0 ≤ j) (h1 : j ≤ j') (h2 : j' ≤ cap) :
    PS P (.slice t x none (some hi) (some mx)) ty n f (.slice (some ⟨b, o, none⟩) j.toNat j'.toNat) := fun o' ho _ w => by
  have h3 : 0 ≤ j' := by omega
  have h4 : ¬ max j' 0 < j := by omega
  simp [execOp, ho, h, hj, hj', Instr.sliceAt, Instr.slice, run_underlying ht, Instr.sliceBounds, Instr.sliceBound, asIntOf, h0, h2, h3, run_sizeOf hs, add_mk]
  exact fun hc => absurd hc h4
/-! arrays behind an address -/
theorem ps_as_all (ht : P.underlying t = some (.array len e)) (hs : SZ P e s) (h : ev n f x = .pointer (some ⟨b, o, none⟩)) : PS P (.slice t x none none none) ty n f (.slice (some ⟨b, o, none⟩) len len) := fun o' ho _ w => by
  simp [execOp, ho, h, Instr.sliceAt, Instr.sureAddr, run_underlying ht, Instr.sliceBounds, run_sizeOf hs, add_mk]
theorem ps_as_h {hi : Operand} {k : IntKind} {j : Int} (ht : P.underlying t = some (.array len e)) (hs : SZ P e s) (h : ev n f x = .pointer (some ⟨b, o, none⟩)) (hj : ev n f hi = .int k j) (h0 : 0 ≤ j) (h1 : j ≤ len) :
    PS P (.slice t x none (some hi) none) ty n f (.slice (some ⟨b, o, none⟩) j.toNat len) := fun o' ho _ w => by
  simp [execOp, ho, h, hj, Instr.sliceAt, Instr.sureAddr, run_underlying ht, Instr.sliceBounds, Instr.sliceBound, asIntOf, h0, h1, run_sizeOf hs, add_mk]
/-! strings -/
theorem ps_ss_l {lo : Operand} {k : IntKind} {j : Int} {z : ByteArray} (ht : P.underlying t = some .string) (h : ev n f x = .string z) (hj : ev n f lo = .int k j) (h0 : 0 ≤ j) (h1 : j ≤ z.size) :
    PS P (.slice t x (some lo) none none) ty n f (.string (z.extract j.toNat z.size)) := fun o' ho _ w => by
  simp [execOp, ho, h, hj, Instr.sliceAt, Instr.slice, run_underlying ht, Instr.sliceBounds, Instr.sliceBound, asIntOf, h0, h1]

/-! built-ins -/
def BI (b : Builtin) (args : Array Operand) (ts : Array TypeId) : Op := .call { callee := .builtin b, args := args, argTypes := ts }
theorem ps_len_sl {bs : Option Addr} (ht : P.underlying t = some (.slice e)) (h : ev n f x = .slice bs len cap) : PS P (BI .len #[x] #[t]) ty n f (.int .i64 len) := fun o' ho _ w => by
  simp [execOp, ho, BI, resolve, invoke, builtin, h, Builtin.len_, run_underlying ht, goInt]
theorem ps_len_str {z : ByteArray} (ht : P.underlying t = some .string) (h : ev n f x = .string z) : PS P (BI .len #[x] #[t]) ty n f (.int .i64 z.size) := fun o' ho _ w => by
  simp [execOp, ho, BI, resolve, invoke, builtin, h, Builtin.len_, run_underlying ht, goInt]
theorem ps_min {y : Operand} {ts : Array TypeId} {k k' : IntKind} {i j : Int} (hx : ev n f x = .int k i) (hy : ev n f y = .int k' j) : PS P (BI .min #[x, y] ts) ty n f (.int k (if j < i then j else i)) := fun o' ho _ w => by
  simp [execOp, ho, BI, resolve, invoke, builtin, hx, hy, run_min_int2]
theorem ps_max {y : Operand} {ts : Array TypeId} {k k' : IntKind} {i j : Int} (hx : ev n f x = .int k i) (hy : ev n f y = .int k' j) : PS P (BI .max #[x, y] ts) ty n f (.int k (if j > i then j else i)) := fun o' ho _ w => by
  simp [execOp, ho, BI, resolve, invoke, builtin, hx, hy, run_max_int2]
theorem ps_max3 {y z : Operand} {ts : Array TypeId} {k k' k'' : IntKind} {i j l : Int} (hx : ev n f x = .int k i) (hy : ev n f y = .int k' j) (hz : ev n f z = .int k'' l) :
    PS P (BI .max #[x, y, z] ts) ty n f (.int k (if l > (if j > i then j else i) then l else (if j > i then j else i))) := fun o' ho _ w => by
  simp [execOp, ho, BI, resolve, invoke, builtin, hx, hy, hz, Builtin.max_, Builtin.max2]

/-! integers -/
variable {y : Operand} {yt : TypeId} {k k' : IntKind} {i j : Int}
theorem eqGuard_int (op : BinOp) (t : TypeId) (x y : Operand) (k k' : IntKind) (i j : Int) (w : World) : (eqGuard op t x y (.int k i) (.int k' j)).run P w = .ok () w := by
  unfold eqGuard; split <;> rfl
theorem ps_add (hx : ev n f x = .int k i) (hy : ev n f y = .int k j) : PS P (.binOp .add t x y yt) ty n f (.int k (k.wrap (i + j))) := fun o' ho _ w => by
  simp [execOp, ho, hx, hy, eqGuard_int, binOp, Op.intArith]
theorem ps_sub (hx : ev n f x = .int k i) (hy : ev n f y = .int k j) : PS P (.binOp .sub t x y yt) ty n f (.int k (k.wrap (i - j))) := fun o' ho _ w => by
  simp [execOp, ho, hx, hy, eqGuard_int, binOp, Op.intArith]
theorem ps_mul (hx : ev n f x = .int k i) (hy : ev n f y = .int k j) : PS P (.binOp .mul t x y yt) ty n f (.int k (k.wrap (i * j))) := fun o' ho _ w => by
  simp [execOp, ho, hx, hy, eqGuard_int, binOp, Op.intArith]
theorem ps_quo (hx : ev n f x = .int k i) (hy : ev n f y = .int k j) (hj : j ≠ 0) : PS P (.binOp .quo t x y yt) ty n f (.int k (k.wrap (i.tdiv j))) := fun o' ho _ w => by
  simp [execOp, ho, hx, hy, eqGuard_int, binOp, Op.intDiv, hj]
theorem ps_rem (hx : ev n f x = .int k i) (hy : ev n f y = .int k j) (hj : j ≠ 0) : PS P (.binOp .rem t x y yt) ty n f (.int k (i.tmod j)) := fun o' ho _ w => by
  simp [execOp, ho, hx, hy, eqGuard_int, binOp, Op.intDiv, hj]
theorem ps_and (hx : ev n f x = .int k i) (hy : ev n f y = .int k j) : PS P (.binOp .and t x y yt) ty n f (.int k (k.wrap (BitVec.ofInt k.bits i &&& BitVec.ofInt k.bits j).toNat)) := fun o' ho _ w => by
  simp [execOp, ho, hx, hy, eqGuard_int, binOp, Op.intBits]
theorem ps_or (hx : ev n f x = .int k i) (hy : ev n f y = .int k j) : PS P (.binOp .or t x y yt) ty n f (.int k (k.wrap (BitVec.ofInt k.bits i ||| BitVec.ofInt k.bits j).toNat)) := fun o' ho _ w => by
  simp [execOp, ho, hx, hy, eqGuard_int, binOp, Op.intBits]
theorem ps_xor (hx : ev n f x = .int k i) (hy : ev n f y = .int k j) : PS P (.binOp .xor t x y yt) ty n f (.int k (k.wrap (BitVec.ofInt k.bits i ^^^ BitVec.ofInt k.bits j).toNat)) := fun o' ho _ w => by
  simp [execOp, ho, hx, hy, eqGuard_int, binOp, Op.intBits]
theorem ps_shl (hx : ev n f x = .int k i) (hy : ev n f y = .int k' j) (hj : 0 ≤ j) : PS P (.binOp .shl t x y yt) ty n f (.int k (k.wrap (i * 2 ^ (min j.toNat k.bits)))) := fun o' ho _ w => by
  have : ¬ j < 0 := by omega
  simp [execOp, ho, hx, hy, eqGuard_int, binOp, Op.shift, this]
theorem ps_shr (hx : ev n f x = .int k i) (hy : ev n f y = .int k' j) (hj : 0 ≤ j) : PS P (.binOp .shr t x y yt) ty n f (.int k (i.fdiv (2 ^ (min j.toNat k.bits)))) := fun o' ho _ w => by
  have : ¬ j < 0 := by omega
  simp [execOp, ho, hx, hy, eqGuard_int, binOp, Op.shift, this]
theorem ps_lss (hx : ev n f x = .int k i) (hy : ev n f y = .int k j) : PS P (.binOp .lss t x y yt) ty n f (.bool (decide (i < j))) := fun o' ho _ w => by
  simp [execOp, ho, hx, hy, eqGuard_int, binOp, Op.intCmp]
theorem ps_leq (hx : ev n f x = .int k i) (hy : ev n f y = .int k j) : PS P (.binOp .leq t x y yt) ty n f (.bool (decide (i ≤ j))) := fun o' ho _ w => by
  simp [execOp, ho, hx, hy, eqGuard_int, binOp, Op.intCmp]
theorem ps_gtr (hx : ev n f x = .int k i) (hy : ev n f y = .int k j) : PS P (.binOp .gtr t x y yt) ty n f (.bool (decide (j < i))) := fun o' ho _ w => by
  simp [execOp, ho, hx, hy, eqGuard_int, binOp, Op.intCmp]
theorem ps_geq (hx : ev n f x = .int k i) (hy : ev n f y = .int k j) : PS P (.binOp .geq t x y yt) ty n f (.bool (decide (j ≤ i))) := fun o' ho _ w => by
  simp [execOp, ho, hx, hy, eqGuard_int, binOp, Op.intCmp]
theorem ps_eql (hx : ev n f x = .int k i) (hy : ev n f y = .int k j) : PS P (.binOp .eql t x y yt) ty n f (.bool (decide (i = j))) := fun o' ho _ w => by
  simp [execOp, ho, hx, hy, eqGuard_int, binOp, Op.intCmp]
  by_cases h : i = j <;> simp [h]
theorem ps_neq (hx : ev n f x = .int k i) (hy : ev n f y = .int k j) : PS P (.binOp .neq t x y yt) ty n f (.bool (decide (i ≠ j))) := fun o' ho _ w => by
  simp [execOp, ho, hx, hy, eqGuard_int, binOp, Op.intCmp]
  by_cases h : i = j <;> simp [h]
theorem ps_not {b : Bool} (hx : ev n f x = .bool b) : PS P (.unOp .not t x) ty n f (.bool (!b)) := fun o' ho _ w => by
  simp [execOp, ho, hx, Op.unary]
theorem ps_com (hx : ev n f x = .int k i) : PS P (.unOp .xor t x) ty n f (.int k (k.wrap (BitVec.ofInt k.bits (if k.signed then -1 else k.max) ^^^ BitVec.ofInt k.bits i).toNat)) := fun o' ho _ w => by
  simp [execOp, ho, hx, Op.unary, Op.intBits]
theorem ps_neg (hx : ev n f x = .int k i) : PS P (.unOp .neg t x) ty n f (.int k (k.wrap (0 - i))) := fun o' ho _ w => by
  simp [execOp, ho, hx, Op.unary, Op.intArith]
theorem ps_conv {d : TypeId} (hs : (P.underlying t).isSome = true) (hd : P.underlying d = some (.int k')) (hx : ev n f x = .int k i) : PS P (.convert t d x) ty n f (.int k' (k'.wrap i)) := fun o' ho _ w => by
  obtain ⟨q, hq⟩ := Option.isSome_iff_exists.1 hs
  simp [execOp, ho, hx, convert, run_underlying hq, run_underlying hd, Conv.intToInt]
theorem ps_conv_str {d : TypeId} {z : ByteArray} (hs : P.underlying t = some .string) (hd : P.underlying d = some .string) (hx : ev n f x = .string z) : PS P (.convert t d x) ty n f (.string z) := fun o' ho _ w => by
  simp [execOp, ho, hx, convert, run_underlying hs, run_underlying hd]

/-! strings, pointers, bools -/
theorem eqGuard_str (op : BinOp) (t : TypeId) (x y : Operand) (a b : ByteArray) (w : World) : (eqGuard op t x y (.string a) (.string b)).run P w = .ok () w := by
  unfold eqGuard; split <;> rfl
theorem ps_str_eql {a b : ByteArray} (hx : ev n f x = .string a) (hy : ev n f y = .string b) : PS P (.binOp .eql t x y yt) ty n f (.bool (decide (a.data.toList = b.data.toList))) := fun o' ho _ w => by
  simp [execOp, ho, hx, hy, eqGuard_str, binOp, Op.stringOp, ByteArray.toList_eq]
  rw [Bool.eq_iff_iff]; simp
theorem ps_str_neq {a b : ByteArray} (hx : ev n f x = .string a) (hy : ev n f y = .string b) : PS P (.binOp .neq t x y yt) ty n f (.bool (!decide (a.data.toList = b.data.toList))) := fun o' ho _ w => by
  simp [execOp, ho, hx, hy, eqGuard_str, binOp, Op.stringOp, ByteArray.toList_eq]
  rw [Bool.eq_iff_iff]; simp
theorem ps_str_gtr {a b : ByteArray} (hx : ev n f x = .string a) (hy : ev n f y = .string b) : PS P (.binOp .gtr t x y yt) ty n f (.bool (!(Op.bytesLess a.data.toList b.data.toList || a.data.toList == b.data.toList))) := fun o' ho _ w => by
  simp [execOp, ho, hx, hy, eqGuard_str, binOp, Op.stringOp, ByteArray.toList_eq]
theorem ps_str_add {a b : ByteArray} (hx : ev n f x = .string a) (hy : ev n f y = .string b) (hl : a.size + b.size ≤ maxLen) : PS P (.binOp .add t x y yt) ty n f (.string (a ++ b)) := fun o' ho _ w => by
  have : ¬ (((a.size + b.size : Nat) : Int) > IntKind.i64.max) := by
    have e : IntKind.i64.max = 9223372036854775807 := rfl
    unfold maxLen at hl
    rw [e]; omega
  simp only [execOp, ho, hx, hy, binOp, Op.stringOp, Sem.run_bind, eqGuard_str, Result.andThen_ok]
  simp only [this, if_false, Sem.run_pure, Result.andThen_ok]
theorem ps_idx_str {z : ByteArray} (ht : P.underlying t = some .string) (hx : ev n f x = .string z) (hy : ev n f y = .int k i) (h0 : 0 ≤ i) (h1 : i.toNat < z.data.toList.length) :
    PS P (.index t x y) ty n f (.int .u8 (z.data.toList[i.toNat]'h1).toNat) := fun o' ho _ w => by
  have h2 : z[i.toNat]? = some (z.data.toList[i.toNat]'h1) := by
    have h3 : i.toNat < z.size := by simpa using h1
    rw [getElem?_pos z i.toNat h3]
    rfl
  simp [execOp, ho, hx, hy, Instr.index, run_underlying ht, asIntOf, h0, h2]
theorem eqGuard_ptr (op : BinOp) (t : TypeId) (x y : Operand) (a : Option Addr) (b : Value) (w : World) : (eqGuard op t x y (.pointer a) b).run P w = .ok () w := by
  cases op <;> cases b <;> rfl
theorem ps_ptr_eql_nil {a : Option Addr} (ht : P.underlying t = some (.pointer e)) (hx : ev n f x = .pointer a) (hy : ev n f y = .pointer none) : PS P (.binOp .eql t x y yt) ty n f (.bool a.isNone) := fun o' ho _ w => by
  have hp : P.underlying t = some (.pointer (P.pointee t)) := by simp [Program.pointee, ht]
  simp only [execOp, ho, hx, hy, Sem.run_bind, eqGuard_ptr, Result.andThen_ok, run_eql_pointer_nil w t a hp, Sem.run_pure]
theorem ps_ptr_neq_nil {a : Option Addr} (ht : P.underlying t = some (.pointer e)) (hx : ev n f x = .pointer a) (hy : ev n f y = .pointer none) : PS P (.binOp .neq t x y yt) ty n f (.bool a.isSome) := fun o' ho _ w => by
  have hp : P.underlying t = some (.pointer (P.pointee t)) := by simp [Program.pointee, ht]
  simp only [execOp, ho, hx, hy, Sem.run_bind, eqGuard_ptr, Result.andThen_ok, run_neq_pointer_nil w t a hp, Sem.run_pure]
  cases a <;> rfl
theorem eqGuard_sl (op : BinOp) (t : TypeId) (x y : Operand) (a : Option Addr) (l c : Nat) (b : Value) (w : World) : (eqGuard op t x y (.slice a l c) b).run P w = .ok () w := by
  cases op <;> cases b <;> rfl
theorem run_equalIn_sl_nil (d : Nat) {t e : TypeId} (ht : P.underlying t = some (.slice e)) (a : Option Addr) (l c l' c' : Nat) (w : World) : (Op.equalIn (d + 1) t (.slice a l c) (.slice none l' c')).run P w = .ok a.isNone w := by
  cases a <;> simp [Op.equalIn, run_underlying ht]
theorem ps_sl_eql_nil {a : Option Addr} {l c l' c' : Nat} (ht : P.underlying t = some (.slice e)) (hx : ev n f x = .slice a l c) (hy : ev n f y = .slice none l' c') : PS P (.binOp .eql t x y yt) ty n f (.bool a.isNone) := fun o' ho _ w => by
  simp only [execOp, ho, hx, hy, binOp, Sem.run_bind, eqGuard_sl, Result.andThen_ok, Op.equal, Op.maxDepth, run_equalIn_sl_nil 9999 ht, Sem.run_pure]
theorem ps_sl_neq_nil {a : Option Addr} {l c l' c' : Nat} (ht : P.underlying t = some (.slice e)) (hx : ev n f x = .slice a l c) (hy : ev n f y = .slice none l' c') : PS P (.binOp .neq t x y yt) ty n f (.bool a.isSome) := fun o' ho _ w => by
  simp only [execOp, ho, hx, hy, binOp, Sem.run_bind, eqGuard_sl, Result.andThen_ok, Op.equal, Op.maxDepth, run_equalIn_sl_nil 9999 ht, Sem.run_pure]
  cases a <;> rfl
theorem eqGuard_bool (op : BinOp) (t : TypeId) (x y : Operand) (a b : Bool) (w : World) : (eqGuard op t x y (.bool a) (.bool b)).run P w = .ok () w := by
  unfold eqGuard; split <;> rfl
theorem ps_bool_eql {a b : Bool} (ht : P.underlying t = some .bool) (hx : ev n f x = .bool a) (hy : ev n f y = .bool b) : PS P (.binOp .eql t x y yt) ty n f (.bool (a == b)) := fun o' ho _ w => by
  simp [execOp, ho, hx, hy, eqGuard_bool, run_eql_bool w t a b ht]
theorem ps_bool_neq {a b : Bool} (ht : P.underlying t = some .bool) (hx : ev n f x = .bool a) (hy : ev n f y = .bool b) : PS P (.binOp .neq t x y yt) ty n f (.bool (!(a == b))) := fun o' ho _ w => by
  simp [execOp, ho, hx, hy, eqGuard_bool, run_neq_bool w t a b ht]

/-! rows by value -/
theorem run_part1 {t : TypeId} {cs : List Value} {off : Nat} {v : Value} (ht : AG P t false) (h : cs[off]? = some v) (w : World) : (part t cs.toArray off).run P w = .ok v w := by
  simp [part, run_isAgg ht, h]
theorem run_partN {t : TypeId} {cs : List Value} {off s : Nat} (ht : AG P t true) (hs : SZ P t s) (w : World) : (part t cs.toArray off).run P w = .ok (.agg ((cs.drop off).take s).toArray) w := by
  simp [part, run_isAgg ht, run_sizeOf hs]
def FT (P : Program) (s : TypeId) (k : Nat) (off : Nat) (t : TypeId) : Prop := ∃ fs g, P.underlying s = some (.struct fs) ∧ fs[k]? = some g ∧ g.offset = off ∧ g.type = t
theorem ps_field1 {s ft : TypeId} {k off : Nat} {cs : List Value} {v : Value} (hf : FT P s k off ft) (ha : AG P ft false) (hx : ev n f x = .agg cs.toArray) (hv : cs[off]? = some v) : PS P (.field s x k) ty n f v := fun o' ho _ w => by
  obtain ⟨fs, g, h1, h2, h3, h4⟩ := hf
  subst h3; subst h4
  simp [execOp, ho, hx, Instr.field, run_underlying h1, h2, asAgg, run_part1 ha hv]
theorem ps_fieldN {s ft : TypeId} {k off sz : Nat} {cs : List Value} (hf : FT P s k off ft) (ha : AG P ft true) (hs : SZ P ft sz) (hx : ev n f x = .agg cs.toArray) : PS P (.field s x k) ty n f (.agg ((cs.drop off).take sz).toArray) := fun o' ho _ w => by
  obtain ⟨fs, g, h1, h2, h3, h4⟩ := hf
  subst h3; subst h4
  simp [execOp, ho, hx, Instr.field, run_underlying h1, h2, asAgg, run_partN ha hs]
theorem ps_index1 {cs : List Value} {v : Value} (ht : P.underlying t = some (.array len e)) (hs : SZ P e 1) (ha : AG P e false) (hx : ev n f x = .agg cs.toArray) (hy : ev n f y = .int k i) (h0 : 0 ≤ i) (h1 : i < len) (hv : cs[i.toNat]? = some v) :
    PS P (.index t x y) ty n f v := fun o' ho _ w => by
  simp [execOp, ho, hx, hy, Instr.index, run_underlying ht, asIntOf, h0, h1, run_sizeOf hs, run_part1 ha hv]
theorem ps_extract {l : List Value} {v : Value} {k : Nat} (hx : ev n f x = .tuple l.toArray) (hv : l[k]? = some v) : PS P (.extract x k) ty n f v := fun o' ho _ w => by
  simp [execOp, ho, hx, Instr.extract, hv]
theorem ps_build {parts : Array (Nat × Operand)} {vs : List (Nat × Value)} {cells : List Value} (hp : (parts.toList.map fun p => (p.1, ev n f p.2)) = vs) (h : P.built t vs = some cells.toArray) : PS P (.build t parts) ty n f (.agg cells.toArray) := fun o' ho _ w => by
  have e : (parts.map fun (i, x) => (i, ev n f x)).toList = vs := by rw [← hp]; simp
  simp only [execOp, ho]
  rw [Sem.run_bind, run_build w t _ _ (by rw [e]; exact h)]
  rfl
theorem ps_func {g : Fn} {a b : Array Operand} {va vb : Array Value} (ha : a.map (ev n f) = va) (hb : b.map (ev n f) = vb) : PS P (.makeFunc g a b) ty n f (.func g va vb) := fun o' ho _ w => by
  simp [execOp, ho, Instr.makeFunc, ha, hb]
end
end Go.SL
