/- Plain law of the log: records' sectors, what is read back of them, and of what a crash left. -/
import Derived.Test.YtejbbpofamfhiaaWalL
namespace Go.Proofs.Ytejbbpofamfhiaa
set_option linter.unusedVariables false
set_option linter.unusedSimpArgs false
open Go Go.SL

abbrev G32 : Nat := 4294967296
def chunk (P : List UInt8) (i : Nat) : List UInt8 := pad 56 ((P.drop (i * 56)).take 56)
theorem chunk_len (P : List UInt8) (i : Nat) : (chunk P i).length = 56 := length_pad (by rw [List.length_take]; omega)
theorem secOf_eq (s : Nat) (P : List UInt8) (i : Nat) : secOf s P i = be 4 (s : Int) ++ (chunk P i ++ be 4 (s : Int)) := rfl
theorem num_be4 {s : Nat} (h : s < G32) : num (be 4 (s : Int)) = s := by rw [num_be]; exact Nat.mod_eq_of_lt h
theorem parts3 {X C Y : List UInt8} (hX : X.length = 4) (hC : C.length = 56) : (X ++ (C ++ Y)).take 4 = X ∧ ((X ++ (C ++ Y)).drop 4).take 56 = C ∧ (X ++ (C ++ Y)).drop 60 = Y := by
  refine ⟨List.take_left' hX, ?_, ?_⟩
  · rw [List.drop_left' hX]; exact List.take_left' hC
  · rw [show (60 : Nat) = 4 + 56 from rfl, ← List.drop_drop, List.drop_left' hX]; exact List.drop_left' hC
theorem sec_secOf {s : Nat} (h0 : 0 < s) (h1 : s < G32) (P : List UInt8) (i : Nat) : sec (secOf s P i) = (s, chunk P i, true) := by
  obtain ⟨e1, e2, e3⟩ := parts3 (Y := be 4 (s : Int)) (length_be 4 (s : Int)) (chunk_len P i)
  unfold sec
  rw [secOf_eq, e1, e2, e3, num_be4 h1]
  simp [h0]
theorem num_rep0 (n : Nat) : num (List.replicate n 0) = 0 := by
  induction n with
  | zero => rfl
  | succ n ih => rw [List.replicate_succ, num_cons, ih]; simp
theorem sec_zero {b : List UInt8} (h : num (b.take 4) = 0) : (sec b).2.2 = false := by
  unfold sec
  dsimp only
  rw [h, Bool.and_eq_false_iff]
  exact Or.inr rfl
theorem sec_Z : (sec Z64).2.2 = false := sec_zero (by rw [List.take_replicate]; exact num_rep0 _)
/-- A torn sector that has two like stamps is the whole one. -/
theorem torn_ok {s : Nat} (h0 : 0 < s) (h1 : s < G32) (P : List UInt8) (i c : Nat) (hc : c ≤ 64) (h : (sec ((secOf s P i).take c ++ Z64.drop c)).2.2 = true) : (secOf s P i).take c ++ Z64.drop c = secOf s P i := by
  have hl := secOf_len s P i
  have hz : Z64.length = 64 := rfl
  simp only [sec, Bool.and_eq_true, decide_eq_true_eq] at h
  obtain ⟨ha, hb⟩ := h
  rcases Nat.lt_or_ge c 60 with h60 | h60
  · exfalso
    have e : ((secOf s P i).take c ++ Z64.drop c).drop 60 = List.replicate 4 0 := by
      rw [List.drop_append, List.drop_of_length_le (l := (secOf s P i).take c) (by rw [List.length_take]; omega), List.length_take, hl, List.nil_append, List.drop_drop, show c + (60 - min c 64) = 60 by omega]
      rfl
    rw [e, num_rep0] at ha
    omega
  · have e4 : ((secOf s P i).take c ++ Z64.drop c).take 4 = be 4 (s : Int) := by
      rw [List.take_append, List.length_take, hl, show 4 - min c 64 = 0 by omega, List.take_zero, List.append_nil, List.take_take, show min 4 c = 4 by omega]
      exact (parts3 (Y := be 4 (s : Int)) (length_be 4 (s : Int)) (chunk_len P i)).1
    have e60 : (secOf s P i).drop 60 = be 4 (s : Int) := (parts3 (Y := be 4 (s : Int)) (length_be 4 (s : Int)) (chunk_len P i)).2.2
    have hlen : (((secOf s P i).take c ++ Z64.drop c).drop 60).length = 4 := by rw [List.length_drop, List.length_append, List.length_take, List.length_drop, hl, hz]; omega
    rw [e4] at ha
    have he := eq_of_num (by rw [hlen, length_be]) ha
    rw [← List.take_append_drop 60 ((secOf s P i).take c ++ Z64.drop c), ← he, ← e60]
    have ht : ((secOf s P i).take c ++ Z64.drop c).take 60 = (secOf s P i).take 60 := by
      rw [List.take_append, List.length_take, hl, show 60 - min c 64 = 0 by omega, List.take_zero, List.append_nil, List.take_take, show min 60 c = 60 by omega]
    rw [ht, List.take_append_drop]
theorem num_cut_le (X : List UInt8) (k : Nat) : num (X.take k ++ List.replicate (X.length - k) 0) ≤ num X := by
  have h1 : num X = num (X.take k) * 256 ^ (X.drop k).length + num (X.drop k) := by rw [← num_append, List.take_append_drop]
  rw [num_append, num_rep0, List.length_replicate, h1, List.length_drop]
  omega
/-- No stamp of a torn sector is greater than the new one. -/
theorem torn_le {s : Nat} (h1 : s < G32) (P : List UInt8) (i c : Nat) (hc : c ≤ 64) : num (((secOf s P i).take c ++ Z64.drop c).take 4) ≤ s ∧ num (((secOf s P i).take c ++ Z64.drop c).drop 60) ≤ s := by
  have hl := secOf_len s P i
  have hz : Z64.length = 64 := rfl
  obtain ⟨e4, _, e60⟩ := parts3 (Y := be 4 (s : Int)) (length_be 4 (s : Int)) (chunk_len P i)
  rw [← secOf_eq] at e4 e60
  have hb := num_be4 h1
  constructor
  · have e : ((secOf s P i).take c ++ Z64.drop c).take 4 = (be 4 (s : Int)).take c ++ List.replicate ((be 4 (s : Int)).length - c) 0 := by
      rw [List.take_append, List.length_take, hl, List.take_take, Nat.min_comm, ← List.take_take, e4, length_be]
      congr 1
      rw [show Z64 = List.replicate 64 0 from rfl, List.drop_replicate, List.take_replicate]
      congr 1; omega
    rw [e]
    exact Nat.le_trans (num_cut_le _ _) (Nat.le_of_eq hb)
  · rcases Nat.lt_or_ge c 60 with h60 | h60
    · have e : ((secOf s P i).take c ++ Z64.drop c).drop 60 = List.replicate 4 0 := by
        rw [List.drop_append, List.drop_of_length_le (l := (secOf s P i).take c) (by rw [List.length_take]; omega), List.length_take, hl, List.nil_append, List.drop_drop, show c + (60 - min c 64) = 60 by omega]
        rfl
      rw [e, num_rep0]; omega
    · have e : ((secOf s P i).take c ++ Z64.drop c).drop 60 = (be 4 (s : Int)).take (c - 60) ++ List.replicate ((be 4 (s : Int)).length - (c - 60)) 0 := by
        rw [List.drop_append, List.length_take, hl, List.drop_take, e60, length_be, show 60 - min c 64 = 0 by omega, List.drop_zero]
        congr 1
        rw [show Z64 = List.replicate 64 0 from rfl, List.drop_replicate]
        congr 1; omega
      rw [e]
      exact Nat.le_trans (num_cut_le _ _) (Nat.le_of_eq hb)
/-! ## a record is read back -/
theorem secs_get {s c : Nat} {b : List UInt8} {A B : List (List UInt8)} {i : Nat} (h : i < sz b.length) : (A ++ (secs s c b ++ B))[A.length + i]? = some (secOf s (payload c b) i) := by
  rw [List.getElem?_append_right (by omega), Nat.add_sub_cancel_left, List.getElem?_append_left (by rw [secs_len]; exact h)]
  simp [secs, h]
def cat (P : List UInt8) : Nat → Nat → List UInt8
  | 0, _ => []
  | m + 1, i => chunk P i ++ cat P m (i + 1)
theorem cat_is (P : List UInt8) : ∀ (m i : Nat), P.length ≤ (i + m) * 56 → ∃ z, cat P m i = P.drop (i * 56) ++ List.replicate z 0
  | 0, i, h => ⟨0, by rw [List.drop_of_length_le (by simpa using h)]; rfl⟩
  | m + 1, i, h => by
    obtain ⟨z, hz⟩ := cat_is P m (i + 1) (by rw [show i + 1 + m = i + (m + 1) by omega]; exact h)
    have e : (i + 1) * 56 = i * 56 + 56 := by rw [Nat.succ_mul]
    rw [cat, hz, e, ← List.drop_drop]
    unfold chunk pad
    generalize P.drop (i * 56) = X
    rcases Nat.lt_or_ge X.length 56 with h1 | h1
    · refine ⟨(56 - X.length) + z, ?_⟩
      rw [List.take_of_length_le (l := X) (by omega), List.drop_of_length_le (l := X) (by omega), List.nil_append, List.append_assoc, List.replicate_append_replicate]
    · refine ⟨z, ?_⟩
      rw [show 56 - (X.take 56).length = 0 by rw [List.length_take]; omega, List.replicate_zero, List.append_nil, ← List.append_assoc, List.take_append_drop]
theorem gather_secs {s c : Nat} (h0 : 0 < s) (h1 : s < G32) {b : List UInt8} {A B : List (List UInt8)} : ∀ (m i : Nat), i + m ≤ sz b.length → gather (A ++ (secs s c b ++ B)) A.length s m i = some (cat (payload c b) m i)
  | 0, _, _ => rfl
  | m + 1, i, h => by
    have hs : secAt (A ++ (secs s c b ++ B)) (A.length + i) = (s, chunk (payload c b) i, true) := by
      unfold secAt; rw [secs_get (by omega)]; exact sec_secOf h0 h1 _ _
    simp only [gather, hs, and_self, if_true]
    rw [gather_secs h0 h1 m (i + 1) (by omega)]
    rfl
theorem hd_chunk {c : Nat} (hc : c < G32) {b : List UInt8} (hb : b.length < G32) : hdN (chunk (payload c b) 0) = c ∧ hdL (chunk (payload c b) 0) = b.length := by
  have e : ∃ Y, chunk (payload c b) 0 = be 4 (c : Int) ++ (be 4 (b.length : Int) ++ Y) := by
    refine ⟨b.take 48 ++ List.replicate (56 - ((payload c b).take 56).length) 0, ?_⟩
    unfold chunk pad
    rw [Nat.zero_mul, List.drop_zero]
    have : (payload c b).take 56 = be 4 (c : Int) ++ (be 4 (b.length : Int) ++ b.take 48) := by
      unfold payload
      rw [List.take_append, List.take_append, length_be, length_be, List.take_of_length_le (l := be 4 (c : Int)) (by simp), List.take_of_length_le (l := be 4 (b.length : Int)) (by simp)]
    rw [this]
    simp
  obtain ⟨Y, e⟩ := e
  unfold hdN hdL
  rw [e, List.take_left' (length_be 4 _), List.drop_left' (length_be 4 _), List.take_left' (length_be 4 _)]
  exact ⟨num_be4 hc, num_be4 hb⟩
theorem sz_bound {n : Nat} : n + 8 ≤ sz n * 56 := by unfold sz; omega
theorem recAt_secs {s c : Nat} (h0 : 0 < s) (h1 : s < G32) (hc : c < G32) {b : List UInt8} (hb : b.length ≤ 4096) {A B : List (List UInt8)} : recAt (A ++ (secs s c b ++ B)) A.length c = some (b, s) := by
  have hz := sz_pos b.length
  have hs : secAt (A ++ (secs s c b ++ B)) A.length = (s, chunk (payload c b) 0, true) := by
    have := secs_get (s := s) (c := c) (b := b) (A := A) (B := B) (i := 0) hz
    unfold secAt; rw [Nat.add_zero] at this; rw [this]; exact sec_secOf h0 h1 _ _
  obtain ⟨e1, e2⟩ := hd_chunk (c := c) hc (b := b) (by unfold G32; omega)
  unfold recAt
  rw [hs]
  dsimp only
  rw [e1, e2, if_neg (by simp), if_neg (by omega), gather_secs h0 h1 _ _ (by omega)]
  obtain ⟨z, hcat⟩ := cat_is (payload c b) (sz b.length) 0 (by rw [payload_len, Nat.zero_add]; exact sz_bound)
  have hc2 : chunk (payload c b) 0 ++ cat (payload c b) (sz b.length - 1) 1 = payload c b ++ List.replicate z 0 := by
    rw [show payload c b ++ List.replicate z 0 = cat (payload c b) (sz b.length) 0 by rw [hcat, Nat.zero_mul, List.drop_zero], show sz b.length = (sz b.length - 1) + 1 by omega]
    rfl
  simp only [Option.map_some]
  rw [hc2]
  have : (payload c b ++ List.replicate z 0).drop 8 = b ++ List.replicate z 0 := by
    unfold payload
    rw [List.append_assoc, List.append_assoc, show (8 : Nat) = 4 + 4 from rfl, ← List.drop_drop, List.drop_left' (length_be 4 _), List.drop_left' (length_be 4 _)]
  rw [this, List.take_left' rfl]
theorem gather_none {V : List (List UInt8)} {a s : Nat} : ∀ (m i j : Nat), i ≤ j → j < i + m → (secAt V (a + j)).2.2 = false → gather V a s m i = none
  | 0, i, j, h1, h2, _ => by omega
  | m + 1, i, j, h1, h2, h => by
    simp only [gather]
    by_cases hij : i = j
    · subst hij; rw [h, if_neg (by simp)]
    · rw [gather_none m (i + 1) j (by omega) (by omega) h]
      split <;> rfl
theorem recAt_not {V : List (List UInt8)} {a c : Nat} (h : (secAt V a).2.2 = false) : recAt V a c = none := by unfold recAt; rw [if_pos h]
/-- A record of which a sector isn't whole isn't there. -/
theorem recAt_part {s c : Nat} (h0 : 0 < s) (h1 : s < G32) (hc : c < G32) {b : List UInt8} (hb : b.length ≤ 4096) {V : List (List UInt8)} {a : Nat} (hok : ∀ i, i < sz b.length → (secAt V (a + i)).2.2 = true → secAt V (a + i) = (s, chunk (payload c b) i, true))
    (j : Nat) (hj : j < sz b.length) (hbad : (secAt V (a + j)).2.2 = false) : recAt V a c = none := by
  have hz := sz_pos b.length
  by_cases hf : (secAt V a).2.2 = false
  · exact recAt_not hf
  · have hs : secAt V a = (s, chunk (payload c b) 0, true) := by
      have := hok 0 hz (by rw [Nat.add_zero]; simpa using hf)
      rwa [Nat.add_zero] at this
    obtain ⟨e1, e2⟩ := hd_chunk (c := c) hc (b := b) (by unfold G32; omega)
    unfold recAt
    rw [hs]
    dsimp only
    rw [e1, e2, if_neg (by simp), if_neg (by omega)]
    have hj0 : j ≠ 0 := fun h => by subst h; rw [Nat.add_zero] at hbad; exact hf hbad
    rw [gather_none _ 1 j (by omega) (by omega) hbad]
    rfl
/-! ## a log -/
abbrev Rs := List (Nat × List UInt8)
def encAll : Nat → Rs → List (List UInt8)
  | _, [] => []
  | c, r :: rs => secs r.1 c r.2 ++ encAll (c + 1) rs
structure GoodR (r : Nat × List UInt8) : Prop where
  pos : 0 < r.1
  lt : r.1 < G32
  len : r.2.length ≤ 4096
theorem encAll_len : ∀ (c : Nat) (rs : Rs), (encAll c rs).length = endOf (rs.map (·.2))
  | _, [] => rfl
  | c, r :: rs => by
    simp only [encAll, List.length_append, secs_len, encAll_len (c + 1) rs, endOf, List.map_cons, List.sum_cons]
theorem encAll_append : ∀ (c : Nat) (rs ts : Rs), encAll c (rs ++ ts) = encAll c rs ++ encAll (c + rs.length) ts
  | c, [], ts => by simp [encAll]
  | c, r :: rs, ts => by
    simp only [List.cons_append, encAll, encAll_append (c + 1) rs ts, List.append_assoc, List.length_cons]
    rw [show c + 1 + rs.length = c + (rs.length + 1) by omega]
theorem recs_enc : ∀ (rs : Rs) (A : List (List UInt8)) (c : Nat) (rest : List (List UInt8)), (∀ r ∈ rs, GoodR r) → c + rs.length < G32 →
    recsA (A ++ (encAll (c + 1) rs ++ rest)) A.length c = rs.map (·.2) ++ recsA (A ++ (encAll (c + 1) rs ++ rest)) (A.length + endOf (rs.map (·.2))) (c + rs.length)
  | [], A, c, rest, _, _ => by simp [encAll, endOf]
  | r :: rs, A, c, rest, hg, hc => by
    have hr := hg r (by simp)
    have h1 : recAt (A ++ (encAll (c + 1) (r :: rs) ++ rest)) A.length (c + 1) = some (r.2, r.1) := by
      simp only [encAll, List.append_assoc]
      exact recAt_secs hr.pos hr.lt (by simp only [List.length_cons] at hc; omega) hr.len
    rw [recsA_some h1]
    have h2 := recs_enc rs (A ++ secs r.1 (c + 1) r.2) (c + 1) rest (fun x hx => hg x (by simp [hx])) (by simp only [List.length_cons] at hc; omega)
    simp only [encAll, List.append_assoc] at h2 ⊢
    rw [List.length_append, secs_len] at h2
    rw [h2]
    simp only [List.map_cons, List.cons_append, List.length_cons, endOf, List.sum_cons]
    rw [show A.length + sz r.2.length + (rs.map (·.2) |>.map fun b => sz b.length).sum = A.length + (sz r.2.length + (rs.map (·.2) |>.map fun b => sz b.length).sum) by omega, show c + 1 + rs.length = c + (rs.length + 1) by omega]
/-- All that a log has is read back, if what is behind it is no record. -/
theorem recs_log {rs : Rs} {rest : List (List UInt8)} (hg : ∀ r ∈ rs, GoodR r) (hn : rs.length < G32) (hr : recAt (encAll 1 rs ++ rest) (endOf (rs.map (·.2))) (rs.length + 1) = none) : recsA (encAll 1 rs ++ rest) 0 0 = rs.map (·.2) := by
  have h := recs_enc rs [] 0 rest hg (by omega)
  simp only [List.nil_append, List.length_nil, Nat.zero_add] at h
  rw [h, recsA_none hr, List.append_nil]
end Go.Proofs.Ytejbbpofamfhiaa
