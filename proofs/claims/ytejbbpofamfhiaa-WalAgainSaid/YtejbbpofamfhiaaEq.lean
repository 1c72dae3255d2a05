/- '==' of arrays and structs of numbers: one Bool, whether the rows of cells are the same. -/
import Derived.Test.YtejbbpofamfhiaaAri
import Derived.ChangeKeysEq
import Derived.Laws.StructEq
namespace Go.SL
open Classical
set_option linter.unusedVariables false
set_option linter.unusedSimpArgs false
open Go

/-- The kinds of a type's cells, if all of them are numbers. -/
def fkF (g : TypeId → Option (List IntKind)) : List Field → Nat → Option (List IntKind)
  | [], _ => some []
  | f :: fs, off => cond (Nat.beq f.offset off && !(f.name == "_")) ((g f.type).bind fun ks => (fkF g fs (off + ks.length)).map (ks ++ ·)) none
def fk (P : Program) : Nat → TypeId → Option (List IntKind)
  | 0, _ => none
  | d + 1, t =>
    (match P.underlying t with
    | some (.int k) => some [k]
    | some (.array n e) => (fk P d e).map fun ks => (List.replicate n ks).flatten
    | some (.struct fs) => cond (P.stoodInHeld t) none (fkF (fk P d) fs.toList 0)
    | _ => none).bind fun ks => match P.info? t with
      | some i => cond (Nat.beq i.size ks.length) (some ks) none
      | none => none
def kindOf : Value → Option IntKind
  | .int k _ => some k
  | _ => none
def KV (ks : List IntKind) (xs : List Value) : Prop := xs.map kindOf = ks.map some
theorem KV.len {ks : List IntKind} {xs : List Value} (h : KV ks xs) : xs.length = ks.length := by
  have := congrArg List.length h
  simpa using this
theorem KV.split {ks ks' : List IntKind} {xs : List Value} (h : KV (ks ++ ks') xs) : KV ks (xs.take ks.length) ∧ KV ks' (xs.drop ks.length) := by
  unfold KV at *
  rw [List.map_take, List.map_drop, h, List.map_append]
  constructor
  · rw [List.take_left' (by simp)]
  · rw [List.drop_left' (by simp)]
theorem KV.append {ks ks' : List IntKind} {xs ys : List Value} (h : KV ks xs) (h' : KV ks' ys) : KV (ks ++ ks') (xs ++ ys) := by
  unfold KV at *; rw [List.map_append, h, h', List.map_append]
theorem KV.one {ks : List IntKind} {xs : List Value} (h : KV ks xs) : ∀ u ∈ xs, u.oneCell' = true := fun u hu => by
  obtain ⟨i, hi, rfl⟩ := List.getElem_of_mem hu
  have h1 := congrArg (·[i]?) h
  simp only [List.getElem?_map, List.getElem?_eq_getElem hi, Option.map_some] at h1
  generalize xs[i] = v at h1
  cases v <;> first | rfl | (cases hk : ks[i]? <;> rw [hk] at h1 <;> simp [kindOf] at h1)
def vv (b : Bool) (xs : List Value) : Value := cond b (.agg xs.toArray) (xs.headD undef)
def EQat (P : Program) (d : Nat) (t : TypeId) (b : Bool) (ks : List IntKind) : Prop :=
  SZ P t ks.length ∧ AG P t b ∧ (b = false → ks.length = 1) ∧ ∀ (c : Nat) (xs ys : List Value), KV ks xs → KV ks ys → ∀ w, (Op.equalIn (d + c) t (vv b xs) (vv b ys)).run P w = .ok (decide (xs = ys)) w
section
variable {P : Program}
theorem part_vv {t : TypeId} {b : Bool} {ks : List IntKind} {xs : List Value} {off : Nat} (hs : SZ P t ks.length) (ha : AG P t b) (h1 : b = false → ks.length = 1) (hl : off + ks.length ≤ xs.length) (w : World) :
    (part t xs.toArray off).run P w = .ok (vv b ((xs.drop off).take ks.length)) w := by
  cases b with
  | true => exact run_partN ha hs w
  | false =>
    have h2 := h1 rfl
    have hlt : off < xs.length := by omega
    have e : (xs.drop off).take ks.length = [xs[off]] := by rw [h2, List.drop_eq_getElem_cons hlt]; rfl
    rw [e]
    exact run_part1 ha (List.getElem?_eq_getElem hlt) w
theorem decide_split {a b c d : List Value} (h : a.length = b.length) : (decide (a = b) && decide (c = d)) = decide (a ++ c = b ++ d) := by
  rw [Bool.eq_iff_iff]
  simp only [Bool.and_eq_true, decide_eq_true_eq]
  exact ⟨fun ⟨h1, h2⟩ => by rw [h1, h2], fun e => List.append_inj e h⟩
theorem eqItems_vv {d : Nat} {e : TypeId} {b : Bool} {ks : List IntKind} (h : EQat P d e b ks) (c : Nat) (xs ys : List Value) (w : World) : ∀ (m k : Nat), k * ks.length + m * ks.length = xs.length → k * ks.length + m * ks.length = ys.length →
    KV (List.replicate m ks).flatten (xs.drop (k * ks.length)) → KV (List.replicate m ks).flatten (ys.drop (k * ks.length)) →
    (Op.eqItems (d + c) e ks.length xs.toArray ys.toArray (List.range' k m)).run P w = .ok (decide (xs.drop (k * ks.length) = ys.drop (k * ks.length))) w := by
  intro m
  obtain ⟨hs, ha, h1, heq⟩ := h
  induction m with
  | zero =>
    intro k hx hy _ _
    simp only [List.range'_zero, Op.eqItems]
    rw [List.drop_of_length_le (by omega), List.drop_of_length_le (by omega)]
    simp
  | succ m ih =>
    intro k hx hy kx ky
    have hx' : k * ks.length + ks.length ≤ xs.length := by rw [Nat.succ_mul] at hx; omega
    have hy' : k * ks.length + ks.length ≤ ys.length := by rw [Nat.succ_mul] at hy; omega
    simp only [List.replicate_succ, List.flatten_cons] at kx ky
    obtain ⟨kx1, kx2⟩ := kx.split
    obtain ⟨ky1, ky2⟩ := ky.split
    have ek : k * ks.length + ks.length = (k + 1) * ks.length := by rw [Nat.succ_mul]
    rw [List.drop_drop, ek] at kx2 ky2
    have hrec := ih (k + 1) (by rw [Nat.succ_mul] at hx ⊢; omega) (by rw [Nat.succ_mul] at hy ⊢; omega) kx2 ky2
    have hq := heq c _ _ kx1 ky1 w
    simp only [List.range'_succ, Op.eqItems, Sem.run_bind, part_vv hs ha h1 hx', part_vv hs ha h1 hy', Result.andThen_ok, hq]
    have ex : xs.drop (k * ks.length) = (xs.drop (k * ks.length)).take ks.length ++ xs.drop ((k + 1) * ks.length) := by rw [← ek, ← List.drop_drop, List.take_append_drop]
    have ey : ys.drop (k * ks.length) = (ys.drop (k * ks.length)).take ks.length ++ ys.drop ((k + 1) * ks.length) := by rw [← ek, ← List.drop_drop, List.take_append_drop]
    have es := decide_split (a := (xs.drop (k * ks.length)).take ks.length) (b := (ys.drop (k * ks.length)).take ks.length) (c := xs.drop ((k + 1) * ks.length)) (d := ys.drop ((k + 1) * ks.length)) (by rw [kx1.len, ky1.len])
    rw [← ex, ← ey] at es
    rw [← es]
    cases hd : decide ((xs.drop (k * ks.length)).take ks.length = (ys.drop (k * ks.length)).take ks.length) with
    | false => simp
    | true => simpa using hrec
theorem eqFields_vv {d : Nat} (IH : ∀ t ks, fk P d t = some ks → ∃ b, EQat P d t b ks) (c : Nat) (xs ys : List Value) (w : World) : ∀ (fs : List Field) (off : Nat) (ks : List IntKind), fkF (fk P d) fs off = some ks →
    off + ks.length = xs.length → off + ks.length = ys.length → KV ks (xs.drop off) → KV ks (ys.drop off) → (Op.eqFields (d + c) xs.toArray ys.toArray fs).run P w = .ok (decide (xs.drop off = ys.drop off)) w
  | [], off, ks, hf, hx, hy, _, _ => by
    have : ks = [] := by simpa [fkF] using hf.symm
    subst this
    rw [List.drop_of_length_le (by simp at hx; omega), List.drop_of_length_le (by simp at hy; omega)]
    simp [Op.eqFields]
  | f :: fs, off, ks, hf, hx, hy, kx, ky => by
    unfold fkF at hf
    cases hc : (Nat.beq f.offset off && !(f.name == "_")) with
    | false => rw [hc] at hf; cases hf
    | true =>
      rw [hc, cond_true] at hf
      obtain ⟨h2, h3⟩ := (Bool.and_eq_true_iff).1 hc
      have ho : f.offset = off := Nat.eq_of_beq_eq_true h2
      have hn : f.name ≠ "_" := by simpa using h3
      obtain ⟨k1, hk1, hk2⟩ := Option.bind_eq_some_iff.1 hf
      obtain ⟨k2, hk3, rfl⟩ := Option.map_eq_some_iff.1 hk2
      obtain ⟨b, hs, ha, h1, heq⟩ := IH _ _ hk1
      obtain ⟨kx1, kx2⟩ := kx.split
      obtain ⟨ky1, ky2⟩ := ky.split
      rw [List.drop_drop] at kx2 ky2
      rw [List.length_append] at hx hy
      have hrec := eqFields_vv IH c xs ys w fs (off + k1.length) k2 hk3 (by omega) (by omega) kx2 ky2
      have hq := heq c _ _ kx1 ky1 w
      simp only [Op.eqFields, if_pos hn, Sem.run_bind, ho, part_vv hs ha h1 (show off + k1.length ≤ xs.length by omega), part_vv hs ha h1 (show off + k1.length ≤ ys.length by omega), Result.andThen_ok, hq]
      have ex : xs.drop off = (xs.drop off).take k1.length ++ xs.drop (off + k1.length) := by rw [← List.drop_drop, List.take_append_drop]
      have ey : ys.drop off = (ys.drop off).take k1.length ++ ys.drop (off + k1.length) := by rw [← List.drop_drop, List.take_append_drop]
      have es := decide_split (a := (xs.drop off).take k1.length) (b := (ys.drop off).take k1.length) (c := xs.drop (off + k1.length)) (d := ys.drop (off + k1.length)) (by rw [kx1.len, ky1.len])
      rw [← ex, ← ey] at es
      rw [← es]
      cases hd : decide ((xs.drop off).take k1.length = (ys.drop off).take k1.length) with
      | false => simp
      | true => simpa using hrec
theorem fk_ok : ∀ (d : Nat) (t : TypeId) (ks : List IntKind), fk P d t = some ks → ∃ b, EQat P d t b ks
  | 0, _, _, h => by cases h
  | d + 1, t, ks, h => by
    unfold fk at h
    obtain ⟨k0, h0, h1⟩ := Option.bind_eq_some_iff.1 h
    have hsz : SZ P t ks.length ∧ k0 = ks := by
      cases hi : P.info? t with
      | none => rw [hi] at h1; cases h1
      | some i =>
        rw [hi] at h1
        simp only at h1
        cases hb : Nat.beq i.size k0.length with
        | false => rw [hb] at h1; cases h1
        | true =>
          rw [hb] at h1
          have : k0 = ks := by simpa using h1
          subst this
          exact ⟨by simp [SZ, hi, Nat.eq_of_beq_eq_true hb], rfl⟩
    obtain ⟨hsz, rfl⟩ := hsz
    clear h h1
    cases hu : P.underlying t with
    | none => rw [hu] at h0; cases h0
    | some kd =>
      rw [hu] at h0
      cases kd with
      | int k =>
        have : k0 = [k] := by simpa using h0.symm
        subst this
        refine ⟨false, hsz, by simp [AG, hu, isAggD], fun _ => rfl, fun c xs ys hx hy w => ?_⟩
        match xs, ys, hx, hy with
        | [v], [u], hx, hy =>
          have hv : kindOf v = some k := by simpa [KV] using hx
          have hu' : kindOf u = some k := by simpa [KV] using hy
          cases v <;> simp [kindOf] at hv
          cases u <;> simp [kindOf] at hu'
          subst hv; subst hu'
          rw [show d + 1 + c = (d + c) + 1 by omega]
          simp only [vv, cond_false, List.headD_cons, Op.equalIn, Sem.run_bind, run_underlying hu, Result.andThen_ok, if_true, Sem.run_pure]
          congr 1
          rw [Bool.eq_iff_iff]; simp
        | [], _, hx, _ => simp [KV] at hx
        | _ :: _ :: _, _, hx, _ => simp [KV] at hx
        | [_], [], _, hy => simp [KV] at hy
        | [_], _ :: _ :: _, _, hy => simp [KV] at hy
      | array n e =>
        simp only at h0
        obtain ⟨k1, hk1, rfl⟩ := Option.map_eq_some_iff.1 h0
        obtain ⟨b, hb⟩ := fk_ok d e k1 hk1
        obtain ⟨i, hi1, hi2⟩ := Option.map_eq_some_iff.1 hb.1
        have hcells : P.cellsOf e = k1.length := by simp [Program.cellsOf, hi1, hi2]
        refine ⟨true, hsz, by simp [AG, hu, isAggD], (fun h => by cases h), fun c xs ys hx hy w => ?_⟩
        rw [show d + 1 + c = (d + c) + 1 by omega]
        simp only [vv, cond_true]
        rw [run_equalIn_array w (d + c) xs.toArray ys.toArray hu hi1, hcells, List.range_eq_range']
        have hl : (List.replicate n k1).flatten.length = n * k1.length := by simp
        have := eqItems_vv hb c xs ys w n 0 (by rw [hx.len, hl]; omega) (by rw [hy.len, hl]; omega) (by simpa using hx) (by simpa using hy)
        simpa using this
      | struct fs =>
        simp only at h0
        cases hst : P.stoodInHeld t with
        | true => rw [hst] at h0; cases h0
        | false =>
          rw [hst, cond_false] at h0
          refine ⟨true, hsz, by simp [AG, hu, isAggD], (fun h => by cases h), fun c xs ys hx hy w => ?_⟩
          rw [show d + 1 + c = (d + c) + 1 by omega]
          simp only [vv, cond_true]
          have hfo : P.fieldsOf t = fs := by simp [Program.fieldsOf, hu]
          rw [run_equalIn_struct w (d + c) t xs.toArray ys.toArray (by rw [hfo]; exact hu) hst, hfo]
          have := eqFields_vv (fk_ok d) c xs ys w fs.toList 0 k0 h0 (by rw [hx.len]; omega) (by rw [hy.len]; omega) (by simpa using hx) (by simpa using hy)
          simpa using this
      | _ => cases h0
/-- '==' at the type is that of the cells. -/
def EQ (P : Program) (t : TypeId) (ks : List IntKind) : Prop := fk P 12 t = some ks ∧ P.eqGuardType P.depth t = false ∧ AG P t true
end
section
variable {P : Program} {ty : TypeId} {n : FN} {f : Nat → Value} {x y : Operand} {t yt : TypeId} {ks : List IntKind} {xs ys : List Value}
theorem EQ.run (h : EQ P t ks) (hx : KV ks xs) (hy : KV ks ys) (w : World) : (Op.equal t (.agg xs.toArray) (.agg ys.toArray)).run P w = .ok (decide (xs = ys)) w := by
  obtain ⟨h1, h2, h3⟩ := h
  obtain ⟨b, _, hb, _, heq⟩ := fk_ok 12 t ks h1
  have : b = true := by
    unfold AG at hb h3
    rw [hb] at h3
    exact Option.some.inj h3
  subst this
  exact heq 9988 xs ys hx hy w
theorem EQ.guard (h : EQ P t ks) (op : BinOp) (x y : Operand) (xs ys : Array Value) (w : World) : (eqGuard op t x y (.agg xs) (.agg ys)).run P w = .ok () w := by
  have e : (eqGuard .eql t x y (.agg xs) (.agg ys)).run P w = .ok () w := by simp [eqGuard, h.2.1]
  have e' : (eqGuard .neq t x y (.agg xs) (.agg ys)).run P w = .ok () w := by simp [eqGuard, h.2.1]
  cases op <;> first | exact e | exact e' | rfl
theorem ps_agg_eql (h : EQ P t ks) (hx : ev n f x = .agg xs.toArray) (hy : ev n f y = .agg ys.toArray) (kx : KV ks xs) (ky : KV ks ys) : PS P (.binOp .eql t x y yt) ty n f (.bool (decide (xs = ys))) := fun o' ho _ w => by
  simp only [execOp, ho, hx, hy, Sem.run_bind, h.guard, Result.andThen_ok, binOp, h.run kx ky, Sem.run_pure]
theorem ps_agg_neq (h : EQ P t ks) (hx : ev n f x = .agg xs.toArray) (hy : ev n f y = .agg ys.toArray) (kx : KV ks xs) (ky : KV ks ys) : PS P (.binOp .neq t x y yt) ty n f (.bool (decide (xs ≠ ys))) := fun o' ho _ w => by
  have e : (!decide (xs = ys)) = decide (xs ≠ ys) := by rw [Bool.eq_iff_iff]; simp
  rw [← e]
  simp only [execOp, ho, hx, hy, Sem.run_bind, h.guard, Result.andThen_ok, binOp, h.run kx ky, Sem.run_pure]
theorem KV.bv (l : List UInt8) : KV (List.replicate l.length .u8) (SL.bv l) := by
  unfold KV SL.bv
  rw [List.map_map]
  induction l with
  | nil => rfl
  | cons c l ih => simp only [List.map_cons, List.length_cons, List.replicate_succ, ih]; rfl
end
end Go.SL
