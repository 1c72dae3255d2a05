/- Parse: a string gone over by its runes, and what digits say. -/
import Derived.Test.YtafalcebolbbeaaUxFit
import Derived.Laws.RangeAny
namespace Go.Proofs.Ytafalcebolbbeaa
set_option linter.unusedVariables false
set_option linter.unusedSimpArgs false
open Go Go.SL

/-- The number of digits. -/
def dval (l : List UInt8) : Nat := l.foldl (fun a c => a * 10 + (c.toNat - 48)) 0
theorem dval_snoc (l : List UInt8) (c : UInt8) : dval (l ++ [c]) = dval l * 10 + (c.toNat - 48) := by simp [dval, List.foldl_append]
theorem dgt_nat (v : Nat) : (dgt v).toNat = 48 + v % 10 := by
  unfold dgt
  rw [UInt8.toNat_ofNat']; omega
/-- What the digits of a number are. -/
structure DigOk (l : List UInt8) (v : Nat) : Prop where
  val : dval l = v
  dig : ∀ c ∈ l, 48 ≤ c.toNat ∧ c.toNat ≤ 57
theorem dval_foldl (l : List UInt8) (a : Nat) : l.foldl (fun a c => a * 10 + (c.toNat - 48)) a = a * 10 ^ l.length + dval l := by
  induction l generalizing a with
  | nil => simp [dval]
  | cons c l ih =>
    have e : dval (c :: l) = (0 * 10 + (c.toNat - 48)) * 10 ^ l.length + dval l := ih _
    rw [List.foldl_cons, ih, e, List.length_cons, Nat.pow_succ, Nat.add_mul, Nat.mul_assoc, Nat.mul_comm 10]
    simp; omega
theorem dval_cons (c : UInt8) (l : List UInt8) : dval (c :: l) = (c.toNat - 48) * 10 ^ l.length + dval l := by
  have e : dval (c :: l) = (0 * 10 + (c.toNat - 48)) * 10 ^ l.length + dval l := dval_foldl l _
  rw [e]; simp
theorem dgF_spec : ∀ (k v : Nat) (acc : List UInt8), v < 10 ^ k → (∀ c ∈ acc, 48 ≤ c.toNat ∧ c.toNat ≤ 57) → (v = 0 → acc ≠ [] → (acc.headD 0).toNat ≠ 48) →
    dval (dgF k v acc) = v * 10 ^ acc.length + dval acc ∧ (∀ c ∈ dgF k v acc, 48 ≤ c.toNat ∧ c.toNat ≤ 57) ∧ (dgF k v acc).length ≤ k + acc.length ∧ (dgF k v acc ≠ [] → ((dgF k v acc).headD 0).toNat ≠ 48) ∧ (v ≠ 0 ∨ acc ≠ [] → dgF k v acc ≠ [])
  | 0, v, acc, hv, ha, h0 => by
    have : v = 0 := by simpa using hv
    subst this
    simp only [dgF]
    exact ⟨by simp, ha, by simp, h0 rfl, fun h => h.resolve_left (by simp)⟩
  | k + 1, v, acc, hv, ha, h0 => by
    unfold dgF
    by_cases hz : v = 0
    · rw [if_pos hz]
      subst hz
      exact ⟨by simp, ha, by omega, h0 rfl, fun h => h.resolve_left (by simp)⟩
    · rw [if_neg hz]
      have hd := dgt_nat v
      have hv' : v / 10 < 10 ^ k := by rw [Nat.div_lt_iff_lt_mul (by decide), ← Nat.pow_succ]; exact hv
      obtain ⟨a1, a2, a3, a4, a5⟩ := dgF_spec k (v / 10) (dgt v :: acc) hv' (fun c hc => by
        rcases List.mem_cons.1 hc with rfl | hc
        · omega
        · exact ha c hc) (fun h10 _ => by simp only [List.headD_cons]; omega)
      refine ⟨?_, a2, by simp only [List.length_cons] at a3; omega, a4, fun _ => a5 (.inr (by simp))⟩
      rw [a1, dval_cons, hd, List.length_cons, Nat.pow_succ]
      have e : 48 + v % 10 - 48 = v % 10 := by omega
      rw [e, Nat.mul_comm (10 ^ acc.length) 10, ← Nat.mul_assoc, ← Nat.add_assoc, ← Nat.add_mul]
      congr 2; omega
theorem digs_spec (v : Nat) (hv : v < M128) : dval (digs v) = v ∧ (∀ c ∈ digs v, 48 ≤ c.toNat ∧ c.toNat ≤ 57) ∧ 1 ≤ (digs v).length ∧ (digs v).length ≤ 39 ∧ ((digs v).length = 1 ∨ ((digs v).headD 0).toNat ≠ 48) := by
  unfold digs
  by_cases h0 : v = 0
  · rw [if_pos h0, h0]; decide
  · rw [if_neg h0]
    obtain ⟨a1, a2, a3, a4, a5⟩ := dgF_spec 39 v [] (Nat.lt_of_lt_of_le hv pow39) (by simp) (fun h => absurd h h0)
    have hne := a5 (.inl h0)
    refine ⟨by rw [a1]; simp [dval], a2, List.length_pos_iff.2 hne, by simpa using a3, .inr (a4 hne)⟩
theorem dval_take_succ {l : List UInt8} {i : Nat} (h : i < l.length) : dval (l.take (i + 1)) = dval (l.take i) * 10 + ((l[i]).toNat - 48) := by
  rw [List.take_succ_eq_append_getElem h, dval_snoc]
theorem dval_take_le (l : List UInt8) (i : Nat) : dval (l.take i) ≤ dval l := by
  have h : dval l = dval (l.take i) * 10 ^ (l.drop i).length + dval (l.drop i) := by
    have := dval_foldl (l.drop i) (dval (l.take i))
    unfold dval at this ⊢
    rw [← List.foldl_append, List.take_append_drop] at this
    exact this
  have hp : 1 ≤ 10 ^ (l.drop i).length := Nat.pos_of_ne_zero (by simp)
  have := Nat.mul_le_mul_left (dval (l.take i)) hp
  omega

theorem dval_lt : ∀ l : List UInt8, (∀ c ∈ l, 48 ≤ c.toNat ∧ c.toNat ≤ 57) → dval l < 10 ^ l.length
  | [], _ => by decide
  | c :: l, h => by
    have h1 := dval_lt l fun x hx => h x (by simp [hx])
    have h2 := h c (by simp)
    rw [dval_cons, List.length_cons, Nat.pow_succ]
    have h3 : (c.toNat - 48) * 10 ^ l.length ≤ 9 * 10 ^ l.length := Nat.mul_le_mul_right _ (by omega)
    omega
theorem dval_inj : ∀ l m : List UInt8, l.length = m.length → (∀ c ∈ l, 48 ≤ c.toNat ∧ c.toNat ≤ 57) → (∀ c ∈ m, 48 ≤ c.toNat ∧ c.toNat ≤ 57) → dval l = dval m → l = m
  | [], [], _, _, _, _ => rfl
  | [], _ :: _, h, _, _, _ => by simp at h
  | _ :: _, [], h, _, _, _ => by simp at h
  | c :: l, d :: m, h, hl, hm, e => by
    have hll : l.length = m.length := by simpa using h
    have h1 := dval_lt l fun x hx => hl x (by simp [hx])
    have h2 := dval_lt m fun x hx => hm x (by simp [hx])
    have h3 := hl c (by simp)
    have h4 := hm d (by simp)
    rw [dval_cons, dval_cons, hll] at e
    rw [hll] at h1
    have hp : 0 < 10 ^ m.length := Nat.pow_pos (by decide)
    have e1 : dval l = dval m ∧ c.toNat - 48 = d.toNat - 48 := by
      have q1 := congrArg (· % 10 ^ m.length) e
      have q2 := congrArg (· / 10 ^ m.length) e
      simp only [Nat.mul_comm _ (10 ^ m.length), Nat.mul_add_mod, Nat.mul_add_div hp, Nat.mod_eq_of_lt h1, Nat.mod_eq_of_lt h2, Nat.div_eq_of_lt h1, Nat.div_eq_of_lt h2, Nat.add_zero] at q1 q2
      exact ⟨q1, q2⟩
    rw [dval_inj l m hll (fun x hx => hl x (by simp [hx])) (fun x hx => hm x (by simp [hx])) e1.1, UInt8.toNat_inj.1 (show c.toNat = d.toNat by omega)]
/-- A text that is told as a number: no needless nought, digits alone. -/
structure Canon (l : List UInt8) : Prop where
  dig : ∀ c ∈ l, 48 ≤ c.toNat ∧ c.toNat ≤ 57
  pos : 1 ≤ l.length
  le : l.length ≤ 39
  head : l.length = 1 ∨ (l.headD 0).toNat ≠ 48
theorem Canon.ge {l : List UInt8} (h : Canon l) (h2 : 2 ≤ l.length) : 10 ^ (l.length - 1) ≤ dval l := by
  cases l with
  | nil => simp at h2
  | cons c l =>
    have h3 := h.dig c (by simp)
    have h4 : c.toNat ≠ 48 := h.head.resolve_left (by omega)
    rw [dval_cons, List.length_cons, Nat.add_sub_cancel]
    have h5 : 1 * 10 ^ l.length ≤ (c.toNat - 48) * 10 ^ l.length := Nat.mul_le_mul_right _ (by omega)
    omega
theorem Canon.inj {l m : List UInt8} (h : Canon l) (h' : Canon m) (e : dval l = dval m) : l = m := by
  refine dval_inj l m ?_ h.dig h'.dig e
  have key : ∀ {a b : List UInt8}, Canon a → Canon b → dval a = dval b → ¬ a.length < b.length := by
    intro a b ha hb e hlt
    have h1 := dval_lt a ha.dig
    have h2 := hb.ge (by have := ha.pos; omega)
    have h3 : 10 ^ a.length ≤ 10 ^ (b.length - 1) := Nat.pow_le_pow_right (by decide) (by omega)
    omega
  have := key h h' e
  have := key h' h e.symm
  omega
theorem digs_canon (v : Nat) (hv : v < M128) : Canon (digs v) ∧ dval (digs v) = v := by
  obtain ⟨h1, h2, h3, h4, h5⟩ := digs_spec v hv
  exact ⟨⟨h2, h3, h4, h5⟩, h1⟩
/-- As far as the runes lead. -/
def pgo : List UInt8 → Nat → Option Nat
  | [], a => some a
  | c :: l, a => if 48 ≤ c.toNat ∧ c.toNat ≤ 57 ∧ a * 10 + (c.toNat - 48) < M128 then pgo l (a * 10 + (c.toNat - 48)) else none
def parseN (l : List UInt8) : Nat × Bool := match pgo l 0 with
  | some a => if digs a = l then (a, true) else (0, false)
  | none => (0, false)
theorem pgo_some : ∀ (l : List UInt8) (a b : Nat), a < M128 → pgo l a = some b → b < M128
  | [], a, b, ha, h => by simp only [pgo, Option.some.injEq] at h; omega
  | c :: l, a, b, ha, h => by
    unfold pgo at h
    by_cases hc : 48 ≤ c.toNat ∧ c.toNat ≤ 57 ∧ a * 10 + (c.toNat - 48) < M128
    · rw [if_pos hc] at h; exact pgo_some l _ b hc.2.2 h
    · rw [if_neg hc] at h; cases h
theorem pgo_of : ∀ (l : List UInt8) (a : Nat), (∀ c ∈ l, 48 ≤ c.toNat ∧ c.toNat ≤ 57) → a * 10 ^ l.length + dval l < M128 → pgo l a = some (a * 10 ^ l.length + dval l)
  | [], a, _, _ => by simp [pgo, dval]
  | c :: l, a, h, hm => by
    have h1 := h c (by simp)
    have e : a * 10 ^ (c :: l).length + dval (c :: l) = (a * 10 + (c.toNat - 48)) * 10 ^ l.length + dval l := by
      rw [dval_cons, List.length_cons, Nat.pow_succ, Nat.add_mul, Nat.mul_assoc, Nat.mul_comm 10]
      omega
    rw [e] at hm ⊢
    have hp : 1 ≤ 10 ^ l.length := Nat.pow_pos (by decide)
    have hle := Nat.mul_le_mul_left (a * 10 + (c.toNat - 48)) hp
    unfold pgo
    rw [if_pos ⟨h1.1, h1.2, by omega⟩]
    exact pgo_of l _ (fun x hx => h x (by simp [hx])) hm
theorem M128_pos : 0 < M128 := by decide
theorem parse_digs (v : Nat) (hv : v < M128) : parseN (digs v) = (v, true) := by
  obtain ⟨h1, h2⟩ := digs_canon v hv
  have := pgo_of (digs v) 0 h1.dig (by rw [h2]; omega)
  rw [h2, Nat.zero_mul, Nat.zero_add] at this
  unfold parseN
  rw [this]
  simp
theorem parse_yes {l : List UInt8} (h : (parseN l).2 = true) : (parseN l).1 < M128 ∧ digs (parseN l).1 = l := by
  unfold parseN at h ⊢
  cases hp : pgo l 0 with
  | none => rw [hp] at h; cases h
  | some a =>
    rw [hp] at h
    dsimp only at h ⊢
    by_cases e : digs a = l
    · rw [if_pos e]; exact ⟨pgo_some l 0 a M128_pos hp, e⟩
    · rw [if_neg e] at h; cases h
theorem parse_no {l : List UInt8} (h : (parseN l).2 = false) : (parseN l).1 = 0 := by
  unfold parseN at h ⊢
  cases hp : pgo l 0 with
  | none => rfl
  | some a =>
    rw [hp] at h
    dsimp only at h ⊢
    by_cases e : digs a = l
    · rw [if_pos e] at h; cases h
    · rw [if_neg e]
theorem pow38 : 10 ^ 38 < M128 := by decide
theorem parse_big {l : List UInt8} (h : (parseN l).2 = false) (hc : Canon l) : l.length = 39 ∧ M128 ≤ dval l := by
  have hm : M128 ≤ dval l := by
    rcases Nat.lt_or_ge (dval l) M128 with h1 | h1
    · obtain ⟨h2, h3⟩ := digs_canon _ h1
      rw [hc.inj h2 h3.symm, parse_digs _ h1] at h
      cases h
    · exact h1
  refine ⟨?_, hm⟩
  have h1 := dval_lt l hc.dig
  rcases Nat.lt_or_ge l.length 39 with h2 | h2
  · have h3 : 10 ^ l.length ≤ 10 ^ 38 := Nat.pow_le_pow_right (by decide) (by omega)
    have := pow38
    omega
  · exact Nat.le_antisymm hc.le h2
theorem less_val : ∀ l m : List UInt8, l.length = m.length → (∀ c ∈ l, 48 ≤ c.toNat ∧ c.toNat ≤ 57) → (∀ c ∈ m, 48 ≤ c.toNat ∧ c.toNat ≤ 57) → Op.bytesLess l m = true → dval l < dval m
  | [], [], _, _, _, h => by simp [Op.bytesLess] at h
  | [], _ :: _, h, _, _, _ => by simp at h
  | _ :: _, [], h, _, _, _ => by simp at h
  | c :: l, d :: m, h, hl, hm, e => by
    have hll : l.length = m.length := by simpa using h
    have h1 := dval_lt l fun x hx => hl x (by simp [hx])
    have h3 := hl c (by simp)
    have h4 := hm d (by simp)
    rw [dval_cons, dval_cons, hll]
    rw [hll] at h1
    simp only [Op.bytesLess, Bool.or_eq_true, decide_eq_true_eq, Bool.and_eq_true, beq_iff_eq] at e
    rcases e with e | ⟨rfl, e⟩
    · have e' : c.toNat < d.toNat := e
      have h5 : (c.toNat - 48 + 1) * 10 ^ m.length ≤ (d.toNat - 48) * 10 ^ m.length := Nat.mul_le_mul_right _ (by omega)
      rw [Nat.succ_mul] at h5
      omega
    · have := less_val l m hll (fun x hx => hl x (by simp [hx])) (fun x hx => hm x (by simp [hx])) e
      omega
theorem parse_gtr {l : List UInt8} (h : (parseN l).2 = false) (hc : Canon l) : (!(Op.bytesLess l (digs (M128 - 1)) || l == digs (M128 - 1))) = true := by
  obtain ⟨h1, h2⟩ := parse_big h hc
  have hM := M128_pos
  obtain ⟨h3, h4⟩ := digs_canon (M128 - 1) (by omega)
  have h5 : (digs (M128 - 1)).length = 39 := by decide +kernel
  simp only [Bool.not_eq_true', Bool.or_eq_false_iff, beq_eq_false_iff_ne, ne_eq]
  constructor
  · cases hb : Op.bytesLess l (digs (M128 - 1)) with
    | false => rfl
    | true =>
      have := less_val _ _ (h1.trans h5.symm) hc.dig h3.dig hb
      omega
  · rintro rfl
    omega

/-! ## runes -/
abbrev itAt (b : Nat) (l : List UInt8) (i : Nat) : Asn := pt b (.stringIter ⟨l.toArray⟩ i)
section
variable {P : Program} {ty : TypeId} {n : FN} {f : Nat → Value} {w0 : World} {As Bs : List Asn} {x : Operand} {t : TypeId} {l : List UInt8} {b i : Nat}
theorem os_range (ht : P.underlying t = some .string) (hx : ev n f x = strV l) : OS P (.range t x) ty n f w0 As (fun v Cs => ∃ b, v = .pointer (some ⟨b, 0, none⟩) ∧ Cs = itAt b l 0 :: As) :=
  OS.of_run fun w hw o' ho _ => by
    have h := run_range_string (P := P) w t ⟨l.toArray⟩ ht
    exact ⟨_, _, _, by simp [execOp, ho, hx, strV, h]; rfl, ⟨w.heap.size, rfl, rfl⟩, heap_new _ hw⟩
theorem os_next_end (hp : As.Perm (itAt b l i :: Bs)) (hx : ev n f x = .pointer (some ⟨b, 0, none⟩)) (h : l.length ≤ i) : OS P (.next x true) ty n f w0 As (Is (.tuple #[.bool false]) As) :=
  OS.of_run fun w hw o' ho _ => by
    have hg := heap_get (hw.perm hp)
    have hs : ¬ i < ByteArray.size ⟨l.toArray⟩ := by show ¬ i < l.toArray.size; simpa using h
    exact ⟨_, _, _, by simp [execOp, ho, hx, Instr.next, getObj, Sem.run, hg, hs], ⟨rfl, rfl⟩, hw⟩
theorem os_next (hp : As.Perm (itAt b l i :: Bs)) (hx : ev n f x = .pointer (some ⟨b, 0, none⟩)) (h : i < l.length) :
    OS P (.next x true) ty n f w0 As (fun v Cs => ∃ c j : Nat, (v = .tuple #[.bool true, .int .i64 (i : Int), .int .i32 (c : Int)] ∧ Cs = itAt b l j :: Bs) ∧ c ≤ 2147483647 ∧ (l[i].toNat < 128 → c = l[i].toNat ∧ j = i + 1) ∧ (128 ≤ l[i].toNat → 128 ≤ c)) :=
  OS.of_run fun w hw o' ho _ => by
    have hw' := hw.perm hp
    have hg := heap_get hw'
    have hlt := heap_lt hw'
    have hs : i < ByteArray.size ⟨l.toArray⟩ := by show i < l.toArray.size; simpa using h
    have hb : ByteArray.get ⟨l.toArray⟩ i hs = l[i] := by show l.toArray[i] = l[i]; simp
    refine ⟨.tuple #[.bool true, .int .i64 (i : Int), .int .i32 ((Utf8.decode ⟨l.toArray⟩ i).1 : Int)], { w with heap := w.heap.setIfInBounds b (.stringIter ⟨l.toArray⟩ (i + (Utf8.decode ⟨l.toArray⟩ i).2)) }, itAt b l (i + (Utf8.decode ⟨l.toArray⟩ i).2) :: Bs, ?_, ⟨(Utf8.decode ⟨l.toArray⟩ i).1, i + (Utf8.decode ⟨l.toArray⟩ i).2, ⟨rfl, rfl⟩, decode_le _ _, fun h1 => ?_, fun h1 => ?_⟩, ?_⟩
    · simp [execOp, ho, hx, Instr.next, getObj, setObj, Sem.run, hg, hs, goInt]
    · have := decode_ascii ⟨l.toArray⟩ i hs (by show (ByteArray.get ⟨l.toArray⟩ i hs).toNat < 128; rw [hb]; exact h1)
      rw [this]
      exact ⟨congrArg UInt8.toNat hb, rfl⟩
    · exact (decode_high ⟨l.toArray⟩ i hs (by show 128 ≤ (ByteArray.get ⟨l.toArray⟩ i hs).toNat; rw [hb]; exact h1)).1
    · refine heap_set hw' rfl rfl rfl (by simp) (by simp [hlt]) fun k hk => ?_
      simp [Array.getElem?_setIfInBounds, Ne.symm hk]
end
theorem pgo_step (l : List UInt8) (i a : Nat) (h : i < l.length) : pgo (l.drop i) a = if 48 ≤ l[i].toNat ∧ l[i].toNat ≤ 57 ∧ a * 10 + (l[i].toNat - 48) < M128 then pgo (l.drop (i + 1)) (a * 10 + (l[i].toNat - 48)) else none := by
  rw [List.drop_eq_getElem_cons h]; rfl
theorem sub48 (c : Nat) (hc : c ≤ 2147483647) : ∃ x : Nat, IntKind.u64.wrap ((c : Int) - 48) = (x : Int) ∧ x < 18446744073709551616 ∧ (48 ≤ c → x = c - 48) := by
  refine ⟨(((c : Int) - 48) % 18446744073709551616).toNat, ?_, ?_, ?_⟩
  · show ((c : Int) - 48) % 18446744073709551616 = _
    omega
  · omega
  · omega
theorem M64 : 18446744073709551616 < M128 := by decide
def ten (a x : Nat) : List Nat := [a, a, a, a, a, a, a, a, a, a, x]
theorem ten_lt {a x : Nat} (ha : a < M128) (hx : x < 18446744073709551616) : ∀ y ∈ ten a x, y < M128 := by
  intro y hy
  have := M64
  simp only [ten, List.mem_cons, List.not_mem_nil, or_false] at hy
  rcases hy with h | h | h | h | h | h | h | h | h | h | h <;> omega
theorem ten_sum (a x : Nat) : addN (ten a x) = if a * 10 + x < M128 then (a * 10 + x, true) else (0, false) := by
  have : (ten a x).sum = a * 10 + x := by simp only [ten, List.sum_cons, List.sum_nil]; omega
  unfold addN
  rw [this]
theorem Parse_spec (l : List UInt8) : FSpec Try.prog 20 [strV l] [] (fun r As => r = .tuple #[.agg (nc (parseN l).1).toArray, .bool (parseN l).2] ∧ As = []) := by
  refine FSpec.intro Try.func20 rfl 51 Try.ntmps20 (Nat.le_of_ble_eq_true rfl) fun w0 F => ?_
  show CW _ _ _ _ _ _ (F)
  repeat (first | refine CW.seq ?_ | refine PW.then_ ?_ | refine CW.block ?_ | refine CW.skip ?_ | refine CW.ret ?_ | refine PW.then_ret ?_ | refine PW.block_ret ?_ | refine Cut.ret ?_ | refine Rnd.ret ?_ | refine PW.block_normal ?_ | refine CW.exit ?_ | refine PW.then_exit ?_ | refine PW.block_hit ?_ | refine PW.block_miss rfl ?_ | refine Cut.exit ?_ | refine Rnd.exit ?_)
  refine CW.region ?_
  refine LE (os_alloc T.ti27) ?_
  rintro _ _ ⟨b2, rfl, rfl⟩
  refine L1 (ps_assign rfl).os ?_
  refine LW.nil ?_
  repeat (first | refine CW.seq ?_ | refine PW.then_ ?_ | refine CW.block ?_ | refine CW.skip ?_ | refine CW.ret ?_ | refine PW.then_ret ?_ | refine PW.block_ret ?_ | refine Cut.ret ?_ | refine Rnd.ret ?_ | refine PW.block_normal ?_ | refine CW.exit ?_ | refine PW.then_exit ?_ | refine PW.block_hit ?_ | refine PW.block_miss rfl ?_ | refine Cut.exit ?_ | refine Rnd.exit ?_)
  refine CW.region ?_
  refine LE (os_alloc T.ti27) ?_
  rintro _ _ ⟨b4, rfl, rfl⟩
  refine LW.nil ?_
  repeat (first | refine CW.seq ?_ | refine PW.then_ ?_ | refine CW.block ?_ | refine CW.skip ?_ | refine CW.ret ?_ | refine PW.then_ret ?_ | refine PW.block_ret ?_ | refine Cut.ret ?_ | refine Rnd.ret ?_ | refine PW.block_normal ?_ | refine CW.exit ?_ | refine PW.then_exit ?_ | refine PW.block_hit ?_ | refine PW.block_miss rfl ?_ | refine Cut.exit ?_ | refine Rnd.exit ?_)
  refine CW.region ?_
  refine L1 (ps_move rfl).os ?_
  refine LE (os_range T.un9 rfl) ?_
  rintro _ _ ⟨b10, rfl, rfl⟩
  refine LW.nil ?_
  repeat (first | refine CW.seq ?_ | refine PW.then_ ?_ | refine CW.block ?_ | refine CW.skip ?_ | refine CW.ret ?_ | refine PW.then_ret ?_ | refine PW.block_ret ?_ | refine Cut.ret ?_ | refine Rnd.ret ?_ | refine PW.block_normal ?_ | refine CW.exit ?_ | refine PW.then_exit ?_ | refine PW.block_hit ?_ | refine PW.block_miss rfl ?_ | refine Cut.exit ?_ | refine Rnd.exit ?_)
  refine CW.loopM (α := Nat × Nat) [3, 6, 7, 8, 11, 12, 13, 14, 15, 16, 17, 18, 19, 20, 21, 22, 23, 24, 25, 26, 27, 28, 29, 30, 31, 32, 33, 34, 35, 36, 37, 38, 39, 40, 41, 42, 43, 44] (fun k s => s.1 ≤ l.length ∧ k = l.length - s.1 ∧ s.2 < M128 ∧ pgo (l.drop s.1) s.2 = pgo l 0) (fun s => [])
    (fun s => itAt b10 l s.1 :: cb b4 27 (nc s.2) :: cb b2 27 (nc 0) :: F) l.length (0, 0) ⟨Nat.zero_le _, rfl, M128_pos, rfl⟩ trivial (by repeat (first | exact Ent.refl _ | (apply Ent.cons; · repeat (first | exact pk_head _ _ | apply pk_tail)) | apply Ent.skip)) ?_
  rintro k ⟨i, a⟩ g ⟨hi, hk, ha, hgo⟩
  dsimp only at hi hk ha hgo ⊢
  repeat (first | refine CW.seq ?_ | refine PW.then_ ?_ | refine CW.block ?_ | refine CW.skip ?_ | refine CW.ret ?_ | refine PW.then_ret ?_ | refine PW.block_ret ?_ | refine Cut.ret ?_ | refine Rnd.ret ?_ | refine PW.block_normal ?_ | refine CW.exit ?_ | refine PW.then_exit ?_ | refine PW.block_hit ?_ | refine PW.block_miss rfl ?_ | refine Cut.exit ?_ | refine Rnd.exit ?_)
  by_cases hlt : i < l.length
  · rw [pgo_step l i a hlt] at hgo
    refine CW.region ?_
    refine LE (os_next (i := i) (by repeat (first | exact pk_head _ _ | apply pk_tail)) rfl hlt) ?_
    rintro _ _ ⟨c, j, ⟨rfl, rfl⟩, hc1, hc2, hc3⟩
    refine L1 (ps_extract rfl rfl).os ?_
    refine LW.nil ?_
    obtain ⟨x, hx1, hx2, hx3⟩ := sub48 c hc1
    have hsum := ten_sum a x
    obtain ⟨y, ok, hyo⟩ : ∃ y ok, addN (ten a x) = (y, ok) := ⟨_, _, rfl⟩
    have hm := ten_lt ha hx2
    repeat (first | refine CW.seq ?_ | refine PW.then_ ?_ | refine CW.block ?_ | refine CW.skip ?_ | refine CW.ret ?_ | refine PW.then_ret ?_ | refine PW.block_ret ?_ | refine Cut.ret ?_ | refine Rnd.ret ?_ | refine PW.block_normal ?_ | refine CW.exit ?_ | refine PW.then_exit ?_ | refine PW.block_hit ?_ | refine PW.block_miss rfl ?_ | refine Cut.exit ?_ | refine Rnd.exit ?_)
    refine CW.cond_true rfl ?_
    repeat (first | refine CW.seq ?_ | refine PW.then_ ?_ | refine CW.block ?_ | refine CW.skip ?_ | refine CW.ret ?_ | refine PW.then_ret ?_ | refine PW.block_ret ?_ | refine Cut.ret ?_ | refine Rnd.ret ?_ | refine PW.block_normal ?_ | refine CW.exit ?_ | refine PW.then_exit ?_ | refine PW.block_hit ?_ | refine PW.block_miss rfl ?_ | refine Cut.exit ?_ | refine Rnd.exit ?_)
    refine CW.region ?_
    refine L1 (ps_extract rfl rfl).os ?_
    refine L1 (ps_assign rfl).os ?_
    refine LW.nil ?_
    repeat (first | refine CW.seq ?_ | refine PW.then_ ?_ | refine CW.block ?_ | refine CW.skip ?_ | refine CW.ret ?_ | refine PW.then_ret ?_ | refine PW.block_ret ?_ | refine Cut.ret ?_ | refine Rnd.ret ?_ | refine PW.block_normal ?_ | refine CW.exit ?_ | refine PW.then_exit ?_ | refine PW.block_hit ?_ | refine PW.block_miss rfl ?_ | refine Cut.exit ?_ | refine Rnd.exit ?_)
    refine CW.cutB (α := Nat) [7, 8, 14, 15, 16, 17, 18, 19, 20, 21, 22, 23, 24, 25, 26, 27, 28, 29, 30, 31, 32] (fun _ => True) (fun s => [(7, .pointer (some ⟨s, 0, none⟩)), (8, .bool ok)]) (fun s => cb s 27 (nc y) :: itAt b10 l j :: cb b4 27 (nc a) :: cb b2 27 (nc 0) :: F) ?_ ?_
    · refine CW.drawH [cb b4 27 (nc a)] [] T.mixed ?_
      refine H_take (i := 0) (some 15) rfl rfl (by kernel_rfl) (by kernel_rfl) (by kernel_rfl) rfl (pl_loadAll (by repeat (first | exact pk_head _ _ | apply pk_tail)) T.ag27 (by exact T.sz27) rfl) (by kernel_rfl) (pkc (by repeat (first | exact pk_head _ _ | apply pk_tail)) (pkn _)) ?_
      refine H_take (i := 1) (some 16) rfl rfl (by kernel_rfl) (by kernel_rfl) (by kernel_rfl) rfl (pl_loadAll (by repeat (first | exact pk_head _ _ | apply pk_tail)) T.ag27 (by exact T.sz27) rfl) (by kernel_rfl) (pkc (by repeat (first | exact pk_head _ _ | apply pk_tail)) (pkn _)) ?_
      refine H_take (i := 2) (some 17) rfl rfl (by kernel_rfl) (by kernel_rfl) (by kernel_rfl) rfl (pl_loadAll (by repeat (first | exact pk_head _ _ | apply pk_tail)) T.ag27 (by exact T.sz27) rfl) (by kernel_rfl) (pkc (by repeat (first | exact pk_head _ _ | apply pk_tail)) (pkn _)) ?_
      refine H_take (i := 3) (some 18) rfl rfl (by kernel_rfl) (by kernel_rfl) (by kernel_rfl) rfl (pl_loadAll (by repeat (first | exact pk_head _ _ | apply pk_tail)) T.ag27 (by exact T.sz27) rfl) (by kernel_rfl) (pkc (by repeat (first | exact pk_head _ _ | apply pk_tail)) (pkn _)) ?_
      refine H_take (i := 4) (some 19) rfl rfl (by kernel_rfl) (by kernel_rfl) (by kernel_rfl) rfl (pl_loadAll (by repeat (first | exact pk_head _ _ | apply pk_tail)) T.ag27 (by exact T.sz27) rfl) (by kernel_rfl) (pkc (by repeat (first | exact pk_head _ _ | apply pk_tail)) (pkn _)) ?_
      refine H_take (i := 5) (some 20) rfl rfl (by kernel_rfl) (by kernel_rfl) (by kernel_rfl) rfl (pl_loadAll (by repeat (first | exact pk_head _ _ | apply pk_tail)) T.ag27 (by exact T.sz27) rfl) (by kernel_rfl) (pkc (by repeat (first | exact pk_head _ _ | apply pk_tail)) (pkn _)) ?_
      refine H_take (i := 6) (some 21) rfl rfl (by kernel_rfl) (by kernel_rfl) (by kernel_rfl) rfl (pl_loadAll (by repeat (first | exact pk_head _ _ | apply pk_tail)) T.ag27 (by exact T.sz27) rfl) (by kernel_rfl) (pkc (by repeat (first | exact pk_head _ _ | apply pk_tail)) (pkn _)) ?_
      refine H_take (i := 7) (some 22) rfl rfl (by kernel_rfl) (by kernel_rfl) (by kernel_rfl) rfl (pl_loadAll (by repeat (first | exact pk_head _ _ | apply pk_tail)) T.ag27 (by exact T.sz27) rfl) (by kernel_rfl) (pkc (by repeat (first | exact pk_head _ _ | apply pk_tail)) (pkn _)) ?_
      refine H_take (i := 8) (some 23) rfl rfl (by kernel_rfl) (by kernel_rfl) (by kernel_rfl) rfl (pl_loadAll (by repeat (first | exact pk_head _ _ | apply pk_tail)) T.ag27 (by exact T.sz27) rfl) (by kernel_rfl) (pkc (by repeat (first | exact pk_head _ _ | apply pk_tail)) (pkn _)) ?_
      refine H_take (i := 9) (some 24) rfl rfl (by kernel_rfl) (by kernel_rfl) (by kernel_rfl) rfl (pl_loadAll (by repeat (first | exact pk_head _ _ | apply pk_tail)) T.ag27 (by exact T.sz27) rfl) (by kernel_rfl) (pkc (by repeat (first | exact pk_head _ _ | apply pk_tail)) (pkn _)) ?_
      refine H_take (i := 10) (some 25) rfl rfl (by kernel_rfl) (by kernel_rfl) (by kernel_rfl) rfl (ps_move rfl).pl (by kernel_rfl) (pkc (by repeat (first | exact pk_head _ _ | apply pk_tail)) (pkn _)) ?_
      refine H_take (i := 11) (some 26) rfl rfl (by kernel_rfl) (by kernel_rfl) (by kernel_rfl) rfl (ps_to (u := .int .u64 (c : Int)) (congrArg _ (wrap_u64_id (by omega) (by omega))) (ps_conv (by kernel_rfl) T.un25 rfl)).pl (by kernel_rfl) (pkc (by repeat (first | exact pk_head _ _ | apply pk_tail)) (pkn _)) ?_
      refine H_take (i := 12) (some 27) rfl rfl (by kernel_rfl) (by kernel_rfl) (by kernel_rfl) rfl (ps_to (congrArg (Value.int .u64) hx1) (ps_sub rfl rfl)).pl (by kernel_rfl) (pkc (by repeat (first | exact pk_head _ _ | apply pk_tail)) (pkn _)) ?_
      refine H_branch (rs := [13, 19]) (by kernel_rfl) (by simp) ?_
      refine HR.cons1 (i := 13) (some 28) rfl rfl rfl (os_call0 (Of_spec x hx2) Try.func17 (by decide +kernel) rfl rfl) (pkc (by repeat (first | exact pk_head _ _ | apply pk_tail)) (pkn _)) ?_ ?_
      · skip
        refine H_branch (rs := [14, 19]) (by kernel_rfl) (by simp) ?_
        refine HR.consE (i := 14) (some 29) rfl rfl rfl (os_bslR ((ten a x).map nc) T.un22 T.ti27 (by rfl) (by rfl) (by simp [nc_len, ten]) (by decide) (by decide)) ?_ ?_
        · rintro _ _ ⟨b29, rfl, rfl⟩
          refine ⟨fun _ => ⟨_, (pkc (by repeat (first | exact pk_head _ _ | apply pk_tail)) (pkn _))⟩, ?_⟩
          refine H_branch (rs := [15, 19]) (by kernel_rfl) (by simp) ?_
          refine HR.cons1 (i := 15) (some 30) rfl rfl rfl (os_call1 (Add_row (ten a x) rfl (by simp [ten]) hm hyo) Try.func15 (by decide +kernel) rfl rfl (by repeat (first | exact pk_head _ _ | apply pk_tail))) (pkc (by repeat (first | exact pk_head _ _ | apply pk_tail)) (pkn _)) ?_ ?_
          · skip
            refine H_take (i := 16) (some 14) rfl rfl (by kernel_rfl) (by kernel_rfl) (by kernel_rfl) rfl (ps_move rfl).pl (by kernel_rfl) (pkc (by repeat (first | exact pk_head _ _ | apply pk_tail)) (pkn _)) ?_
            refine H_take (i := 17) (some 31) rfl rfl (by kernel_rfl) (by kernel_rfl) (by kernel_rfl) rfl (ps_extract rfl rfl).pl (by kernel_rfl) (pkc (by repeat (first | exact pk_head _ _ | apply pk_tail)) (pkn _)) ?_
            refine H_take (i := 18) (some 32) rfl rfl (by kernel_rfl) (by kernel_rfl) (by kernel_rfl) rfl (ps_extract rfl rfl).pl (by kernel_rfl) (pkc (by repeat (first | exact pk_head _ _ | apply pk_tail)) (pkn _)) ?_
            refine H_branch (rs := [19]) (by kernel_rfl) (by simp) ?_
            refine HR.consE (i := 19) (some 7) rfl rfl rfl (os_alloc T.ti27) ?_ ?_
            · rintro _ _ ⟨b7, rfl, rfl⟩
              refine ⟨fun _ => ⟨_, (pkc (by repeat (first | exact pk_head _ _ | apply pk_tail)) (pkn _))⟩, ?_⟩
              refine H_branch (rs := [20]) (by kernel_rfl) (by simp) ?_
              refine HR.cons1 (i := 20) none rfl rfl rfl (os_storeAll (b := b7) (vs := nc y) (by repeat (first | exact pk_head _ _ | apply pk_tail)) (by exact T.sz27) rfl rfl (nc_one _) (by rfl)) (pkc (by repeat (first | exact pk_head _ _ | apply pk_tail)) (pkn _)) ?_ ?_
              · skip
                refine H_take (i := 21) (some 8) rfl rfl (by kernel_rfl) (by kernel_rfl) (by kernel_rfl) rfl (ps_assign rfl).pl (by kernel_rfl) (pkc (by repeat (first | exact pk_head _ _ | apply pk_tail)) (pkn _)) ?_
                refine H_done (by kernel_rfl) ?_
                exact Meet.cut b7 trivial (by repeat (first | (with_reducible exact Ag.refl _ _) | (with_reducible apply Ag.pu0) | ((with_reducible refine Ag.pu _ ?_ ?_); · exact rfl) | ((with_reducible refine Ag.mix ?_ ?_); · exact rfl) | ((with_reducible refine Ag.pus ?_ ?_); · exact rfl))) ⟨rfl, rfl, trivial⟩ (by repeat (first | exact Ent.refl _ | (apply Ent.cons; · repeat (first | exact pk_head _ _ | apply pk_tail)) | apply Ent.skip))
              exact HR.nil
            exact HR.nil
          refine HR.consE (i := 19) (some 7) rfl rfl rfl (os_alloc T.ti27) ?_ ?_
          · rintro _ _ ⟨b7, rfl, rfl⟩
            refine ⟨fun _ => ⟨_, (pkc (by repeat (first | exact pk_head _ _ | apply pk_tail)) (pkn _))⟩, ?_⟩
            refine H_branch (rs := [15]) (by kernel_rfl) (by simp) ?_
            refine HR.cons1 (i := 15) (some 30) rfl rfl rfl (os_call1 (Add_row (ten a x) rfl (by simp [ten]) hm hyo) Try.func15 (by decide +kernel) rfl rfl (by repeat (first | exact pk_head _ _ | apply pk_tail))) (pkc (by repeat (first | exact pk_head _ _ | apply pk_tail)) (pkn _)) ?_ ?_
            · skip
              refine H_take (i := 16) (some 14) rfl rfl (by kernel_rfl) (by kernel_rfl) (by kernel_rfl) rfl (ps_move rfl).pl (by kernel_rfl) (pkc (by repeat (first | exact pk_head _ _ | apply pk_tail)) (pkn _)) ?_
              refine H_take (i := 17) (some 31) rfl rfl (by kernel_rfl) (by kernel_rfl) (by kernel_rfl) rfl (ps_extract rfl rfl).pl (by kernel_rfl) (pkc (by repeat (first | exact pk_head _ _ | apply pk_tail)) (pkn _)) ?_
              refine H_take (i := 18) (some 32) rfl rfl (by kernel_rfl) (by kernel_rfl) (by kernel_rfl) rfl (ps_extract rfl rfl).pl (by kernel_rfl) (pkc (by repeat (first | exact pk_head _ _ | apply pk_tail)) (pkn _)) ?_
              refine H_branch (rs := [20]) (by kernel_rfl) (by simp) ?_
              refine HR.cons1 (i := 20) none rfl rfl rfl (os_storeAll (b := b7) (vs := nc y) (by repeat (first | exact pk_head _ _ | apply pk_tail)) (by exact T.sz27) rfl rfl (nc_one _) (by rfl)) (pkc (by repeat (first | exact pk_head _ _ | apply pk_tail)) (pkn _)) ?_ ?_
              · skip
                refine H_take (i := 21) (some 8) rfl rfl (by kernel_rfl) (by kernel_rfl) (by kernel_rfl) rfl (ps_assign rfl).pl (by kernel_rfl) (pkc (by repeat (first | exact pk_head _ _ | apply pk_tail)) (pkn _)) ?_
                refine H_done (by kernel_rfl) ?_
                exact Meet.cut b7 trivial (by repeat (first | (with_reducible exact Ag.refl _ _) | (with_reducible apply Ag.pu0) | ((with_reducible refine Ag.pu _ ?_ ?_); · exact rfl) | ((with_reducible refine Ag.mix ?_ ?_); · exact rfl) | ((with_reducible refine Ag.pus ?_ ?_); · exact rfl))) ⟨rfl, rfl, trivial⟩ (by repeat (first | exact Ent.refl _ | (apply Ent.cons; · repeat (first | exact pk_head _ _ | apply pk_tail)) | apply Ent.skip))
              exact HR.nil
            exact HR.nil
          exact HR.nil
        refine HR.consE (i := 19) (some 7) rfl rfl rfl (os_alloc T.ti27) ?_ ?_
        · rintro _ _ ⟨b7, rfl, rfl⟩
          refine ⟨fun _ => ⟨_, (pkc (by repeat (first | exact pk_head _ _ | apply pk_tail)) (pkn _))⟩, ?_⟩
          refine H_branch (rs := [14]) (by kernel_rfl) (by simp) ?_
          refine HR.consE (i := 14) (some 29) rfl rfl rfl (os_bslR ((ten a x).map nc) T.un22 T.ti27 (by rfl) (by rfl) (by simp [nc_len, ten]) (by decide) (by decide)) ?_ ?_
          · rintro _ _ ⟨b29, rfl, rfl⟩
            refine ⟨fun _ => ⟨_, (pkc (by repeat (first | exact pk_head _ _ | apply pk_tail)) (pkn _))⟩, ?_⟩
            refine H_branch (rs := [15]) (by kernel_rfl) (by simp) ?_
            refine HR.cons1 (i := 15) (some 30) rfl rfl rfl (os_call1 (Add_row (ten a x) rfl (by simp [ten]) hm hyo) Try.func15 (by decide +kernel) rfl rfl (by repeat (first | exact pk_head _ _ | apply pk_tail))) (pkc (by repeat (first | exact pk_head _ _ | apply pk_tail)) (pkn _)) ?_ ?_
            · skip
              refine H_take (i := 16) (some 14) rfl rfl (by kernel_rfl) (by kernel_rfl) (by kernel_rfl) rfl (ps_move rfl).pl (by kernel_rfl) (pkc (by repeat (first | exact pk_head _ _ | apply pk_tail)) (pkn _)) ?_
              refine H_take (i := 17) (some 31) rfl rfl (by kernel_rfl) (by kernel_rfl) (by kernel_rfl) rfl (ps_extract rfl rfl).pl (by kernel_rfl) (pkc (by repeat (first | exact pk_head _ _ | apply pk_tail)) (pkn _)) ?_
              refine H_take (i := 18) (some 32) rfl rfl (by kernel_rfl) (by kernel_rfl) (by kernel_rfl) rfl (ps_extract rfl rfl).pl (by kernel_rfl) (pkc (by repeat (first | exact pk_head _ _ | apply pk_tail)) (pkn _)) ?_
              refine H_branch (rs := [20]) (by kernel_rfl) (by simp) ?_
              refine HR.cons1 (i := 20) none rfl rfl rfl (os_storeAll (b := b7) (vs := nc y) (by repeat (first | exact pk_head _ _ | apply pk_tail)) (by exact T.sz27) rfl rfl (nc_one _) (by rfl)) (pkc (by repeat (first | exact pk_head _ _ | apply pk_tail)) (pkn _)) ?_ ?_
              · skip
                refine H_take (i := 21) (some 8) rfl rfl (by kernel_rfl) (by kernel_rfl) (by kernel_rfl) rfl (ps_assign rfl).pl (by kernel_rfl) (pkc (by repeat (first | exact pk_head _ _ | apply pk_tail)) (pkn _)) ?_
                refine H_done (by kernel_rfl) ?_
                exact Meet.cut b7 trivial (by repeat (first | (with_reducible exact Ag.refl _ _) | (with_reducible apply Ag.pu0) | ((with_reducible refine Ag.pu _ ?_ ?_); · exact rfl) | ((with_reducible refine Ag.mix ?_ ?_); · exact rfl) | ((with_reducible refine Ag.pus ?_ ?_); · exact rfl))) ⟨rfl, rfl, trivial⟩ (by repeat (first | exact Ent.refl _ | (apply Ent.cons; · repeat (first | exact pk_head _ _ | apply pk_tail)) | apply Ent.skip))
              exact HR.nil
            exact HR.nil
          exact HR.nil
        exact HR.nil
      refine HR.consE (i := 19) (some 7) rfl rfl rfl (os_alloc T.ti27) ?_ ?_
      · rintro _ _ ⟨b7, rfl, rfl⟩
        refine ⟨fun _ => ⟨_, (pkc (by repeat (first | exact pk_head _ _ | apply pk_tail)) (pkn _))⟩, ?_⟩
        refine H_branch (rs := [13]) (by kernel_rfl) (by simp) ?_
        refine HR.cons1 (i := 13) (some 28) rfl rfl rfl (os_call0 (Of_spec x hx2) Try.func17 (by decide +kernel) rfl rfl) (pkc (by repeat (first | exact pk_head _ _ | apply pk_tail)) (pkn _)) ?_ ?_
        · skip
          refine H_branch (rs := [14]) (by kernel_rfl) (by simp) ?_
          refine HR.consE (i := 14) (some 29) rfl rfl rfl (os_bslR ((ten a x).map nc) T.un22 T.ti27 (by rfl) (by rfl) (by simp [nc_len, ten]) (by decide) (by decide)) ?_ ?_
          · rintro _ _ ⟨b29, rfl, rfl⟩
            refine ⟨fun _ => ⟨_, (pkc (by repeat (first | exact pk_head _ _ | apply pk_tail)) (pkn _))⟩, ?_⟩
            refine H_branch (rs := [15]) (by kernel_rfl) (by simp) ?_
            refine HR.cons1 (i := 15) (some 30) rfl rfl rfl (os_call1 (Add_row (ten a x) rfl (by simp [ten]) hm hyo) Try.func15 (by decide +kernel) rfl rfl (by repeat (first | exact pk_head _ _ | apply pk_tail))) (pkc (by repeat (first | exact pk_head _ _ | apply pk_tail)) (pkn _)) ?_ ?_
            · skip
              refine H_take (i := 16) (some 14) rfl rfl (by kernel_rfl) (by kernel_rfl) (by kernel_rfl) rfl (ps_move rfl).pl (by kernel_rfl) (pkc (by repeat (first | exact pk_head _ _ | apply pk_tail)) (pkn _)) ?_
              refine H_take (i := 17) (some 31) rfl rfl (by kernel_rfl) (by kernel_rfl) (by kernel_rfl) rfl (ps_extract rfl rfl).pl (by kernel_rfl) (pkc (by repeat (first | exact pk_head _ _ | apply pk_tail)) (pkn _)) ?_
              refine H_take (i := 18) (some 32) rfl rfl (by kernel_rfl) (by kernel_rfl) (by kernel_rfl) rfl (ps_extract rfl rfl).pl (by kernel_rfl) (pkc (by repeat (first | exact pk_head _ _ | apply pk_tail)) (pkn _)) ?_
              refine H_branch (rs := [20]) (by kernel_rfl) (by simp) ?_
              refine HR.cons1 (i := 20) none rfl rfl rfl (os_storeAll (b := b7) (vs := nc y) (by repeat (first | exact pk_head _ _ | apply pk_tail)) (by exact T.sz27) rfl rfl (nc_one _) (by rfl)) (pkc (by repeat (first | exact pk_head _ _ | apply pk_tail)) (pkn _)) ?_ ?_
              · skip
                refine H_take (i := 21) (some 8) rfl rfl (by kernel_rfl) (by kernel_rfl) (by kernel_rfl) rfl (ps_assign rfl).pl (by kernel_rfl) (pkc (by repeat (first | exact pk_head _ _ | apply pk_tail)) (pkn _)) ?_
                refine H_done (by kernel_rfl) ?_
                exact Meet.cut b7 trivial (by repeat (first | (with_reducible exact Ag.refl _ _) | (with_reducible apply Ag.pu0) | ((with_reducible refine Ag.pu _ ?_ ?_); · exact rfl) | ((with_reducible refine Ag.mix ?_ ?_); · exact rfl) | ((with_reducible refine Ag.pus ?_ ?_); · exact rfl))) ⟨rfl, rfl, trivial⟩ (by repeat (first | exact Ent.refl _ | (apply Ent.cons; · repeat (first | exact pk_head _ _ | apply pk_tail)) | apply Ent.skip))
              exact HR.nil
            exact HR.nil
          exact HR.nil
        exact HR.nil
      exact HR.nil
    intro p7 g5 _
    repeat (first | refine CW.seq ?_ | refine PW.then_ ?_ | refine CW.block ?_ | refine CW.skip ?_ | refine CW.ret ?_ | refine PW.then_ret ?_ | refine PW.block_ret ?_ | refine Cut.ret ?_ | refine Rnd.ret ?_ | refine PW.block_normal ?_ | refine CW.exit ?_ | refine PW.then_exit ?_ | refine PW.block_hit ?_ | refine PW.block_miss rfl ?_ | refine Cut.exit ?_ | refine Rnd.exit ?_)
    by_cases hd : 48 ≤ c ∧ c ≤ 57 ∧ ok = true
    · obtain ⟨hd1, hd2, rfl⟩ := hd
      have hl128 : l[i].toNat < 128 := by
        rcases Nat.lt_or_ge l[i].toNat 128 with h | h
        · exact h
        · have := hc3 h; omega
      obtain ⟨rfl, rfl⟩ := hc2 hl128
      have hxe := hx3 hd1
      rw [hyo, hxe] at hsum
      have hov : a * 10 + (l[i].toNat - 48) < M128 := by
        rcases Nat.lt_or_ge (a * 10 + (l[i].toNat - 48)) M128 with h | h
        · exact h
        · rw [if_neg (by omega)] at hsum; cases hsum
      rw [if_pos hov] at hsum
      have hye : y = a * 10 + (l[i].toNat - 48) := (Prod.mk.inj hsum).1
      rw [if_pos ⟨hd1, hd2, hov⟩, ← hye] at hgo
      refine CW.region ?_
      refine L1 (ps_move rfl).os ?_
      refine L1 (ps_f (ps_lss rfl rfl) (by omega)).os ?_
      refine L1 (ps_move rfl).os ?_
      refine LG1 ?_ (ps_move rfl).os ?_
      · exact rfl
      refine LG1 ?_ (ps_f (ps_gtr rfl rfl) (by omega)).os ?_
      · exact rfl
      refine L1 (ps_pick_f rfl rfl).os ?_
      refine L1 (ps_move rfl).os ?_
      refine LG1 ?_ (ps_move rfl).os ?_
      · exact rfl
      refine LG1 ?_ (ps_not rfl).os ?_
      · exact rfl
      refine L1 (ps_pick_f rfl rfl).os ?_
      refine LW.nil ?_
      repeat (first | refine CW.seq ?_ | refine PW.then_ ?_ | refine CW.block ?_ | refine CW.skip ?_ | refine CW.ret ?_ | refine PW.then_ret ?_ | refine PW.block_ret ?_ | refine Cut.ret ?_ | refine Rnd.ret ?_ | refine PW.block_normal ?_ | refine CW.exit ?_ | refine PW.then_exit ?_ | refine PW.block_hit ?_ | refine PW.block_miss rfl ?_ | refine Cut.exit ?_ | refine Rnd.exit ?_)
      refine CW.cond_false rfl ?_
      repeat (first | refine CW.seq ?_ | refine PW.then_ ?_ | refine CW.block ?_ | refine CW.skip ?_ | refine CW.ret ?_ | refine PW.then_ret ?_ | refine PW.block_ret ?_ | refine Cut.ret ?_ | refine Rnd.ret ?_ | refine PW.block_normal ?_ | refine CW.exit ?_ | refine PW.then_exit ?_ | refine PW.block_hit ?_ | refine PW.block_miss rfl ?_ | refine Cut.exit ?_ | refine Rnd.exit ?_)
      refine CW.region ?_
      refine L1 (os_loadAll (by repeat (first | exact pk_head _ _ | apply pk_tail)) T.ag27 (by exact T.sz27) rfl) ?_
      refine L1 (os_storeAll (b := b4) (vs := nc y) (by repeat (first | exact pk_head _ _ | apply pk_tail)) (by exact T.sz27) rfl rfl (nc_one _) (by rfl)) ?_
      refine LW.nil ?_
      repeat (first | refine CW.seq ?_ | refine PW.then_ ?_ | refine CW.block ?_ | refine CW.skip ?_ | refine CW.ret ?_ | refine PW.then_ret ?_ | refine PW.block_ret ?_ | refine Cut.ret ?_ | refine Rnd.ret ?_ | refine PW.block_normal ?_ | refine CW.exit ?_ | refine PW.then_exit ?_ | refine PW.block_hit ?_ | refine PW.block_miss rfl ?_ | refine Cut.exit ?_ | refine Rnd.exit ?_)
      exact Meet.round (l.length - (i + 1)) (i + 1, y) (by omega) ⟨hlt, rfl, by omega, hgo⟩ (by repeat (first | (with_reducible exact Ag.refl _ _) | (with_reducible apply Ag.pu0) | ((with_reducible refine Ag.pu _ ?_ ?_); · exact rfl) | ((with_reducible refine Ag.mix ?_ ?_); · exact rfl) | ((with_reducible refine Ag.pus ?_ ?_); · exact rfl))) (by exact trivial) (by repeat (first | exact Ent.refl _ | (apply Ent.cons; · repeat (first | exact pk_head _ _ | apply pk_tail)) | apply Ent.skip))
    · have hno : parseN l = (0, false) := by
        rw [if_neg (fun h => by
          obtain ⟨h1, h2, h3⟩ := h
          obtain ⟨rfl, rfl⟩ := hc2 (by omega)
          have hxe := hx3 h1
          rw [if_pos (by omega), hyo] at hsum
          exact hd ⟨h1, h2, (Prod.mk.inj hsum).2⟩)] at hgo
        unfold parseN
        rw [← hgo]
      rw [hno]
      refine CW.cutB (α := Unit) [33, 34, 35, 36, 37, 38, 39, 40, 41, 42] (fun _ => True) (fun s => [(42, .bool true)]) (fun s => cb b2 27 (nc 0) :: F) ?_ ?_
      · by_cases h1 : c < 48
        · refine CW.region ?_
          refine L1 (ps_move rfl).os ?_
          refine L1 (ps_t (ps_lss rfl rfl) (by omega)).os ?_
          refine L1 (ps_move rfl).os ?_
          refine LG0f ?_ ?_
          · exact rfl
          refine LG0f ?_ ?_
          · exact rfl
          refine L1 (ps_pick_t rfl rfl).os ?_
          refine L1 (ps_move rfl).os ?_
          refine LG0f ?_ ?_
          · exact rfl
          refine LG0f ?_ ?_
          · exact rfl
          refine L1 (ps_pick_t rfl rfl).os ?_
          refine LW.nil ?_
          exact Meet.cut () trivial (by repeat (first | (with_reducible exact Ag.refl _ _) | (with_reducible apply Ag.pu0) | ((with_reducible refine Ag.pu _ ?_ ?_); · exact rfl) | ((with_reducible refine Ag.mix ?_ ?_); · exact rfl) | ((with_reducible refine Ag.pus ?_ ?_); · exact rfl))) ⟨rfl, trivial⟩ (by repeat (first | exact Ent.refl _ | (apply Ent.cons; · repeat (first | exact pk_head _ _ | apply pk_tail)) | apply Ent.skip))
        · by_cases h2 : 57 < c
          · refine CW.region ?_
            refine L1 (ps_move rfl).os ?_
            refine L1 (ps_f (ps_lss rfl rfl) (by omega)).os ?_
            refine L1 (ps_move rfl).os ?_
            refine LG1 ?_ (ps_move rfl).os ?_
            · exact rfl
            refine LG1 ?_ (ps_t (ps_gtr rfl rfl) (by omega)).os ?_
            · exact rfl
            refine L1 (ps_pick_f rfl rfl).os ?_
            refine L1 (ps_move rfl).os ?_
            refine LG0f ?_ ?_
            · exact rfl
            refine LG0f ?_ ?_
            · exact rfl
            refine L1 (ps_pick_t rfl rfl).os ?_
            refine LW.nil ?_
            exact Meet.cut () trivial (by repeat (first | (with_reducible exact Ag.refl _ _) | (with_reducible apply Ag.pu0) | ((with_reducible refine Ag.pu _ ?_ ?_); · exact rfl) | ((with_reducible refine Ag.mix ?_ ?_); · exact rfl) | ((with_reducible refine Ag.pus ?_ ?_); · exact rfl))) ⟨rfl, trivial⟩ (by repeat (first | exact Ent.refl _ | (apply Ent.cons; · repeat (first | exact pk_head _ _ | apply pk_tail)) | apply Ent.skip))
          · have hok : ok = false := by
              cases ok
              · rfl
              · exact absurd ⟨by omega, by omega, rfl⟩ hd
            subst hok
            refine CW.region ?_
            refine L1 (ps_move rfl).os ?_
            refine L1 (ps_f (ps_lss rfl rfl) (by omega)).os ?_
            refine L1 (ps_move rfl).os ?_
            refine LG1 ?_ (ps_move rfl).os ?_
            · exact rfl
            refine LG1 ?_ (ps_f (ps_gtr rfl rfl) (by omega)).os ?_
            · exact rfl
            refine L1 (ps_pick_f rfl rfl).os ?_
            refine L1 (ps_move rfl).os ?_
            refine LG1 ?_ (ps_move rfl).os ?_
            · exact rfl
            refine LG1 ?_ (ps_not rfl).os ?_
            · exact rfl
            refine L1 (ps_pick_f rfl rfl).os ?_
            refine LW.nil ?_
            exact Meet.cut () trivial (by repeat (first | (with_reducible exact Ag.refl _ _) | (with_reducible apply Ag.pu0) | ((with_reducible refine Ag.pu _ ?_ ?_); · exact rfl) | ((with_reducible refine Ag.mix ?_ ?_); · exact rfl) | ((with_reducible refine Ag.pus ?_ ?_); · exact rfl))) ⟨rfl, trivial⟩ (by repeat (first | exact Ent.refl _ | (apply Ent.cons; · repeat (first | exact pk_head _ _ | apply pk_tail)) | apply Ent.skip))
      intro _ _ _
      repeat (first | refine CW.seq ?_ | refine PW.then_ ?_ | refine CW.block ?_ | refine CW.skip ?_ | refine CW.ret ?_ | refine PW.then_ret ?_ | refine PW.block_ret ?_ | refine Cut.ret ?_ | refine Rnd.ret ?_ | refine PW.block_normal ?_ | refine CW.exit ?_ | refine PW.then_exit ?_ | refine PW.block_hit ?_ | refine PW.block_miss rfl ?_ | refine Cut.exit ?_ | refine Rnd.exit ?_)
      refine CW.cond_true rfl ?_
      repeat (first | refine CW.seq ?_ | refine PW.then_ ?_ | refine CW.block ?_ | refine CW.skip ?_ | refine CW.ret ?_ | refine PW.then_ret ?_ | refine PW.block_ret ?_ | refine Cut.ret ?_ | refine Rnd.ret ?_ | refine PW.block_normal ?_ | refine CW.exit ?_ | refine PW.then_exit ?_ | refine PW.block_hit ?_ | refine PW.block_miss rfl ?_ | refine Cut.exit ?_ | refine Rnd.exit ?_)
      refine CW.region ?_
      refine L1 (ps_build (by rfl) (T.bd27)).os ?_
      refine L1 (os_storeAll (by repeat (first | exact pk_head _ _ | apply pk_tail)) (by exact T.sz27) rfl rfl (by first | exact nc_one _ | simp [Value.oneCell']) (by rfl)) ?_
      refine L1 (ps_assign rfl).os ?_
      refine LW.nil ?_
      repeat (first | refine CW.seq ?_ | refine PW.then_ ?_ | refine CW.block ?_ | refine CW.skip ?_ | refine CW.ret ?_ | refine PW.then_ret ?_ | refine PW.block_ret ?_ | refine Cut.ret ?_ | refine Rnd.ret ?_ | refine PW.block_normal ?_ | refine CW.exit ?_ | refine PW.then_exit ?_ | refine PW.block_hit ?_ | refine PW.block_miss rfl ?_ | refine Cut.exit ?_ | refine Rnd.exit ?_)
      exact Fin.retCT (b := b2) (cs := nc 0) rfl (by repeat (first | exact pk_head _ _ | apply pk_tail)) T.ag27 (by exact T.sz27) rfl (.bool false) rfl [] ⟨rfl, rfl⟩ (by repeat (first | exact Ent.refl _ | (apply Ent.cons; · repeat (first | exact pk_head _ _ | apply pk_tail)) | apply Ent.skip))
  · have hil : i = l.length := by omega
    subst hil
    rw [List.drop_length] at hgo
    have hgo' : pgo l 0 = some a := hgo.symm
    have hpr := Print_spec a ha
    refine CW.region ?_
    refine L1 (os_next_end (i := l.length) (by repeat (first | exact pk_head _ _ | apply pk_tail)) rfl (Nat.le_refl _)) ?_
    refine L1 (ps_extract rfl rfl).os ?_
    refine LW.nil ?_
    repeat (first | refine CW.seq ?_ | refine PW.then_ ?_ | refine CW.block ?_ | refine CW.skip ?_ | refine CW.ret ?_ | refine PW.then_ret ?_ | refine PW.block_ret ?_ | refine Cut.ret ?_ | refine Rnd.ret ?_ | refine PW.block_normal ?_ | refine CW.exit ?_ | refine PW.then_exit ?_ | refine PW.block_hit ?_ | refine PW.block_miss rfl ?_ | refine Cut.exit ?_ | refine Rnd.exit ?_)
    refine CW.cond_false rfl ?_
    repeat (first | refine CW.seq ?_ | refine PW.then_ ?_ | refine CW.block ?_ | refine CW.skip ?_ | refine CW.ret ?_ | refine PW.then_ret ?_ | refine PW.block_ret ?_ | refine Cut.ret ?_ | refine Rnd.ret ?_ | refine PW.block_normal ?_ | refine CW.exit ?_ | refine PW.then_exit ?_ | refine PW.block_hit ?_ | refine PW.block_miss rfl ?_ | refine Cut.exit ?_ | refine Rnd.exit ?_)
    by_cases hdg : digs a = l
    · have hno : parseN l = (a, true) := by unfold parseN; rw [hgo']; exact if_pos hdg
      rw [hno]
      refine CW.region ?_
      refine L1 (os_loadAll (by repeat (first | exact pk_head _ _ | apply pk_tail)) T.ag27 (by exact T.sz27) rfl) ?_
      refine L1 (os_call0 hpr Try.func16 (by decide +kernel) rfl rfl) ?_
      refine L1 (ps_move rfl).os ?_
      refine L1 (ps_f (ps_strV_neq (digs a) l rfl rfl) (fun h => h hdg)).os ?_
      refine LW.nil ?_
      repeat (first | refine CW.seq ?_ | refine PW.then_ ?_ | refine CW.block ?_ | refine CW.skip ?_ | refine CW.ret ?_ | refine PW.then_ret ?_ | refine PW.block_ret ?_ | refine Cut.ret ?_ | refine Rnd.ret ?_ | refine PW.block_normal ?_ | refine CW.exit ?_ | refine PW.then_exit ?_ | refine PW.block_hit ?_ | refine PW.block_miss rfl ?_ | refine Cut.exit ?_ | refine Rnd.exit ?_)
      refine CW.cond_false rfl ?_
      repeat (first | refine CW.seq ?_ | refine PW.then_ ?_ | refine CW.block ?_ | refine CW.skip ?_ | refine CW.ret ?_ | refine PW.then_ret ?_ | refine PW.block_ret ?_ | refine Cut.ret ?_ | refine Rnd.ret ?_ | refine PW.block_normal ?_ | refine CW.exit ?_ | refine PW.then_exit ?_ | refine PW.block_hit ?_ | refine PW.block_miss rfl ?_ | refine Cut.exit ?_ | refine Rnd.exit ?_)
      refine CW.region ?_
      refine L1 (os_loadAll (by repeat (first | exact pk_head _ _ | apply pk_tail)) T.ag27 (by exact T.sz27) rfl) ?_
      refine L1 (os_storeAll (b := b2) (vs := nc a) (by repeat (first | exact pk_head _ _ | apply pk_tail)) (by exact T.sz27) rfl rfl (nc_one _) (by rfl)) ?_
      refine L1 (ps_assign rfl).os ?_
      refine LW.nil ?_
      repeat (first | refine CW.seq ?_ | refine PW.then_ ?_ | refine CW.block ?_ | refine CW.skip ?_ | refine CW.ret ?_ | refine PW.then_ret ?_ | refine PW.block_ret ?_ | refine Cut.ret ?_ | refine Rnd.ret ?_ | refine PW.block_normal ?_ | refine CW.exit ?_ | refine PW.then_exit ?_ | refine PW.block_hit ?_ | refine PW.block_miss rfl ?_ | refine Cut.exit ?_ | refine Rnd.exit ?_)
      exact Fin.retCT (b := b2) (cs := nc a) rfl (by repeat (first | exact pk_head _ _ | apply pk_tail)) T.ag27 (by exact T.sz27) rfl (.bool true) rfl [] ⟨rfl, rfl⟩ (by repeat (first | exact Ent.refl _ | (apply Ent.cons; · repeat (first | exact pk_head _ _ | apply pk_tail)) | apply Ent.skip))
    · have hno : parseN l = (0, false) := by unfold parseN; rw [hgo']; exact if_neg hdg
      rw [hno]
      refine CW.region ?_
      refine L1 (os_loadAll (by repeat (first | exact pk_head _ _ | apply pk_tail)) T.ag27 (by exact T.sz27) rfl) ?_
      refine L1 (os_call0 hpr Try.func16 (by decide +kernel) rfl rfl) ?_
      refine L1 (ps_move rfl).os ?_
      refine L1 (ps_t (ps_strV_neq (digs a) l rfl rfl) hdg).os ?_
      refine LW.nil ?_
      repeat (first | refine CW.seq ?_ | refine PW.then_ ?_ | refine CW.block ?_ | refine CW.skip ?_ | refine CW.ret ?_ | refine PW.then_ret ?_ | refine PW.block_ret ?_ | refine Cut.ret ?_ | refine Rnd.ret ?_ | refine PW.block_normal ?_ | refine CW.exit ?_ | refine PW.then_exit ?_ | refine PW.block_hit ?_ | refine PW.block_miss rfl ?_ | refine Cut.exit ?_ | refine Rnd.exit ?_)
      refine CW.cond_true rfl ?_
      repeat (first | refine CW.seq ?_ | refine PW.then_ ?_ | refine CW.block ?_ | refine CW.skip ?_ | refine CW.ret ?_ | refine PW.then_ret ?_ | refine PW.block_ret ?_ | refine Cut.ret ?_ | refine Rnd.ret ?_ | refine PW.block_normal ?_ | refine CW.exit ?_ | refine PW.then_exit ?_ | refine PW.block_hit ?_ | refine PW.block_miss rfl ?_ | refine Cut.exit ?_ | refine Rnd.exit ?_)
      refine CW.region ?_
      refine L1 (ps_build (by rfl) (T.bd27)).os ?_
      refine L1 (os_storeAll (by repeat (first | exact pk_head _ _ | apply pk_tail)) (by exact T.sz27) rfl rfl (by first | exact nc_one _ | simp [Value.oneCell']) (by rfl)) ?_
      refine L1 (ps_assign rfl).os ?_
      refine LW.nil ?_
      repeat (first | refine CW.seq ?_ | refine PW.then_ ?_ | refine CW.block ?_ | refine CW.skip ?_ | refine CW.ret ?_ | refine PW.then_ret ?_ | refine PW.block_ret ?_ | refine Cut.ret ?_ | refine Rnd.ret ?_ | refine PW.block_normal ?_ | refine CW.exit ?_ | refine PW.then_exit ?_ | refine PW.block_hit ?_ | refine PW.block_miss rfl ?_ | refine Cut.exit ?_ | refine Rnd.exit ?_)
      exact Fin.retCT (b := b2) (cs := nc 0) rfl (by repeat (first | exact pk_head _ _ | apply pk_tail)) T.ag27 (by exact T.sz27) rfl (.bool false) rfl [] ⟨rfl, rfl⟩ (by repeat (first | exact Ent.refl _ | (apply Ent.cons; · repeat (first | exact pk_head _ _ | apply pk_tail)) | apply Ent.skip))
end Go.Proofs.Ytafalcebolbbeaa
