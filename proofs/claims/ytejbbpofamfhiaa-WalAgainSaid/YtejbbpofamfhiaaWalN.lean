/- What a log's disk is, through appends, crashes and openings: contracts of Open and Append over it. -/
import Derived.Test.YtejbbpofamfhiaaWalM
import Derived.Test.YtejbbpofamfhiaaWalB
namespace Go.Proofs.Ytejbbpofamfhiaa
set_option linter.unusedVariables false
set_option linter.unusedSimpArgs false
open Go Go.SL

theorem getD_app {A B : List (List UInt8)} {a : Nat} : (A ++ B).getD a [] = if a < A.length then A.getD a [] else B.getD (a - A.length) [] := by
  rw [List.getD_eq_getElem?_getD, List.getD_eq_getElem?_getD, List.getD_eq_getElem?_getD, List.getElem?_append]
  split <;> rfl
theorem getD_rep {k a : Nat} (h : a < k) : (List.replicate k Z64).getD a [] = Z64 := by rw [List.getD_eq_getElem?_getD, List.getElem?_replicate, if_pos h]; rfl
theorem secs_getD {s c : Nat} {b : List UInt8} {i : Nat} (h : i < sz b.length) : (secs s c b).getD i [] = secOf s (payload c b) i := by
  rw [List.getD_eq_getElem?_getD]; simp [secs, h]
theorem secAt_getD {V : List (List UInt8)} {a : Nat} (h : a < V.length) : secAt V a = sec (V.getD a []) := by
  rw [secAt_some h, List.getD_eq_getElem?_getD, List.getElem?_eq_getElem h]; rfl
theorem endOf_nil : endOf [] = 0 := rfl
theorem pad64 {x : List UInt8} (h : x.length = 64) : pad 64 x = x := by unfold pad; rw [h]; simp
theorem pw_recW (E s c : Nat) (b : List UInt8) : (recW E s c b).map pw64 = recW E s c b := by
  unfold recW
  rw [List.map_map]
  apply List.map_congr_left
  intro i _
  show (E + i, pad 64 (secOf s (payload c b) i)) = _
  rw [pad64 (secOf_len _ _ _)]
theorem recW_get {E s c : Nat} {b : List UInt8} {i : Nat} (h : i < (recW E s c b).length) : (recW E s c b)[i] = (E + i, secOf s (payload c b) i) := by simp [recW]
theorem recW_nodup (E s c : Nat) (b : List UInt8) : ((recW E s c b).map (·.1)).Nodup := by
  have : (recW E s c b).map (·.1) = (List.range (sz b.length)).map (E + ·) := by unfold recW; rw [List.map_map]; rfl
  rw [this]
  exact List.pairwise_map.2 (List.Pairwise.imp (fun h => by omega) List.nodup_range)
theorem recW_mem {E s c : Nat} {b : List UInt8} {w : Nat × List UInt8} (h : w ∈ recW E s c b) : E ≤ w.1 ∧ w.1 < E + sz b.length ∧ w.2.length = 64 := by
  obtain ⟨i, hi, rfl⟩ := List.mem_map.1 h
  have := List.mem_range.1 hi
  exact ⟨Nat.le_add_right _ _, Nat.add_lt_add_left this _, secOf_len _ _ _⟩
/-- What a crash leaves of a record that was on its way. -/
theorem crash_part {V : List (List UInt8)} {E s c m : Nat} {b : List UInt8} (hV : ∀ a, E ≤ a → a < V.length → V.getD a [] = Z64) (hk : E + sz b.length ≤ V.length) (mask : Nat) (torn cut : Int) (V' : List (List UInt8)) (hV' : V' = crashTo mask torn cut ((recW E s c b).take m) V) :
    V'.length = V.length ∧ (∀ a, a < E → V'.getD a [] = V.getD a []) ∧ (∀ a, E + sz b.length ≤ a → a < V.length → V'.getD a [] = Z64) ∧ ∀ i, i < sz b.length → ∃ x, x ≤ 64 ∧ V'.getD (E + i) [] = (secOf s (payload c b) i).take x ++ Z64.drop x := by
  subst hV'
  refine ⟨crashTo_len _ _, fun a ha => crash_out fun w hw => ?_, fun a h1 h2 => ?_, fun i hi => ?_⟩
  · have := (recW_mem (List.mem_of_mem_take hw)).1; omega
  · rw [crash_out, hV a (by omega) h2]
    intro w hw
    have := (recW_mem (List.mem_of_mem_take hw)).2.1; omega
  · rcases Nat.lt_or_ge i m with him | him
    · have hi2 : i < ((recW E s c b).take m).length := by rw [List.length_take, len_recW]; omega
      have hg : ((recW E s c b).take m)[i] = (E + i, secOf s (payload c b) i) := by rw [List.getElem_take, recW_get]
      have hn : (((recW E s c b).take m).map (·.1)).Nodup := by rw [List.map_take]; exact (List.take_sublist _ _).nodup (recW_nodup _ _ _ _)
      have := crash_in (mask := mask) (torn := torn) (cut := cut) (d := V) hn i hi2 (by rw [hg]; dsimp only; omega)
      rw [hg] at this
      dsimp only at this
      rw [this, hV (E + i) (by omega) (by omega)]
      split
      · exact ⟨0, by omega, by rw [List.take_zero, List.nil_append, List.drop_zero]⟩
      · exact ⟨_, cutLen_le _ _ _, rfl⟩
    · refine ⟨0, by omega, ?_⟩
      rw [crash_out, hV (E + i) (by omega) (by omega)]
      · rw [List.take_zero, List.nil_append, List.drop_zero]
      · intro w hw
        obtain ⟨j, hj, rfl⟩ := List.getElem_of_mem hw
        rw [List.getElem_take, recW_get]
        rw [List.length_take] at hj
        dsimp only; omega
structure Log (V : List (List UInt8)) (rs : Rs) : Prop where
  good : ∀ r ∈ rs, GoodR r
  le : endOf (rs.map (·.2)) ≤ V.length
  enc : V = encAll 1 rs ++ List.replicate (V.length - endOf (rs.map (·.2))) Z64
theorem Log.zero {V : List (List UInt8)} {rs : Rs} (h : Log V rs) (a : Nat) (h1 : endOf (rs.map (·.2)) ≤ a) (h2 : a < V.length) : V.getD a [] = Z64 := by
  have hl := encAll_len 1 rs
  rw [h.enc, getD_app, if_neg (by omega), getD_rep (by omega)]
theorem Log.take {V : List (List UInt8)} {rs : Rs} (h : Log V rs) : V.take (endOf (rs.map (·.2))) = encAll 1 rs := by
  have hl := encAll_len 1 rs
  have e := h.enc
  generalize V.length - endOf (rs.map (·.2)) = k at e
  rw [e]
  exact List.take_left' hl
/-- Sectors that begin as a log's. -/
theorem split_at {V : List (List UInt8)} {rs : Rs} (h : V.take (endOf (rs.map (·.2))) = encAll 1 rs) : V = encAll 1 rs ++ V.drop (endOf (rs.map (·.2))) := by rw [← h, List.take_append_drop]
theorem take_same {V V' : List (List UInt8)} {E : Nat} (hl : V'.length = V.length) (h : ∀ a, a < E → V'.getD a [] = V.getD a []) : V'.take E = V.take E := by
  refine ext_getD (by rw [List.length_take, List.length_take, hl]) fun a ha => ?_
  rw [List.length_take] at ha
  have := h a (by omega)
  rw [List.getD_eq_getElem?_getD, List.getD_eq_getElem?_getD] at this ⊢
  rw [List.getElem?_take, List.getElem?_take, if_pos (by omega), if_pos (by omega)]
  exact this
theorem Log.nil {V : List (List UInt8)} (h : V = List.replicate V.length Z64) : Log V [] := ⟨(fun r h => by cases h), Nat.zero_le _, h⟩
theorem endOf_snoc (rs : Rs) (s : Nat) (b : List UInt8) : endOf ((rs ++ [(s, b)]).map (·.2)) = endOf (rs.map (·.2)) + sz b.length := by simp [endOf]
/-- A log and one record more. -/
theorem Log.snoc {V V' : List (List UInt8)} {rs : Rs} {s : Nat} {b : List UInt8} (hr : GoodR (s, b)) (h : Log V rs) (hl : V'.length = V.length) (hk : endOf (rs.map (·.2)) + sz b.length ≤ V.length) (h1 : ∀ a, a < endOf (rs.map (·.2)) → V'.getD a [] = V.getD a [])
    (h2 : ∀ i, i < sz b.length → V'.getD (endOf (rs.map (·.2)) + i) [] = secOf s (payload (rs.length + 1) b) i) (h3 : ∀ a, endOf (rs.map (·.2)) + sz b.length ≤ a → a < V.length → V'.getD a [] = Z64) : Log V' (rs ++ [(s, b)]) := by
  have hel := encAll_len 1 rs
  have hes := endOf_snoc rs s b
  have hen : encAll 1 (rs ++ [(s, b)]) = encAll 1 rs ++ secs s (rs.length + 1) b := by rw [encAll_append]; simp [encAll, Nat.add_comm]
  refine ⟨fun r hr' => ?_, by rw [hes, hl]; exact hk, ?_⟩
  · rcases List.mem_append.1 hr' with h' | h'
    · exact h.good r h'
    · obtain rfl := List.mem_singleton.1 h'; exact hr
  · rw [hes, hen]
    generalize endOf (rs.map (·.2)) = E at *
    refine ext_getD (by simp only [List.length_append, List.length_replicate, secs_len, hel]; omega) fun a ha => ?_
    rw [getD_app, getD_app, List.length_append, secs_len, hel]
    rcases Nat.lt_or_ge a E with c1 | c1
    · have ht := h.take
      rw [if_pos (by omega), if_pos c1, h1 a c1, h.enc, getD_app, hel, if_pos c1]
    · rcases Nat.lt_or_ge a (E + sz b.length) with c2 | c2
      · have := h2 (a - E) (by omega)
        rw [show E + (a - E) = a by omega] at this
        rw [if_pos c2, if_neg (by omega), secs_getD (by omega), this]
      · rw [if_neg (by omega), getD_rep (by omega), h3 a c2 (by omega)]
/-- The record that was on its way is there, whole, or it isn't. -/
theorem part_cases {V V' : List (List UInt8)} {rs : Rs} {s : Nat} {b : List UInt8} (hr : GoodR (s, b)) (h : Log V rs) (hn : rs.length + 1 < G32) (hl : V'.length = V.length) (hk : endOf (rs.map (·.2)) + sz b.length ≤ V.length) (h1 : ∀ a, a < endOf (rs.map (·.2)) → V'.getD a [] = V.getD a [])
    (h2 : ∀ i, i < sz b.length → ∃ x, x ≤ 64 ∧ V'.getD (endOf (rs.map (·.2)) + i) [] = (secOf s (payload (rs.length + 1) b) i).take x ++ Z64.drop x) (h3 : ∀ a, endOf (rs.map (·.2)) + sz b.length ≤ a → a < V.length → V'.getD a [] = Z64) :
    Log V' (rs ++ [(s, b)]) ∨ recAt V' (endOf (rs.map (·.2))) (rs.length + 1) = none := by
  by_cases hall : ∀ i, i < sz b.length → V'.getD (endOf (rs.map (·.2)) + i) [] = secOf s (payload (rs.length + 1) b) i
  · exact Or.inl (h.snoc hr hl hk h1 hall h3)
  · refine Or.inr ?_
    have hex : ∃ j, j < sz b.length ∧ V'.getD (endOf (rs.map (·.2)) + j) [] ≠ secOf s (payload (rs.length + 1) b) j := by
      refine Classical.byContradiction fun hc => hall fun i hi => Classical.byContradiction fun hh => hc ⟨i, hi, hh⟩
    obtain ⟨j, hj, hne⟩ := hex
    have hsec : ∀ i, i < sz b.length → (secAt V' (endOf (rs.map (·.2)) + i)).2.2 = true → V'.getD (endOf (rs.map (·.2)) + i) [] = secOf s (payload (rs.length + 1) b) i := fun i hi ho => by
      obtain ⟨x, hx, e⟩ := h2 i hi
      rw [secAt_getD (by omega), e] at ho
      rw [e]; exact torn_ok hr.pos hr.lt _ _ _ hx ho
    refine recAt_part (s := s) (b := b) hr.pos hr.lt hn hr.len (fun i hi ho => ?_) j hj ?_
    · rw [secAt_getD (by omega), hsec i hi ho]; exact sec_secOf hr.pos hr.lt _ _
    · cases hb : (secAt V' (endOf (rs.map (·.2)) + j)).2.2 with
      | false => rfl
      | true => exact absurd (hsec j hj hb) hne
/-! ## stamps -/
theorem stampMax_le {V : List (List UInt8)} {B : Nat} (h : ∀ a, a < V.length → num ((V.getD a []).take 4) ≤ B ∧ num ((V.getD a []).drop 60) ≤ B) : stampMax V ≤ B := by
  have key : ∀ (V : List (List UInt8)) (m : Nat), m ≤ B → (∀ x ∈ V, num (x.take 4) ≤ B ∧ num (x.drop 60) ≤ B) → V.foldl (fun m b => max (max m (num (b.take 4))) (num (b.drop 60))) m ≤ B := by
    intro V
    induction V with
    | nil => exact fun m h _ => h
    | cons x V ih =>
      intro m hm hx
      have := hx x (by simp)
      rw [List.foldl_cons]
      exact ih _ (by omega) fun y hy => hx y (by simp [hy])
  refine key V 0 (Nat.zero_le _) fun x hx => ?_
  obtain ⟨i, hi, rfl⟩ := List.getElem_of_mem hx
  have := h i hi
  rwa [List.getD_eq_getElem?_getD, List.getElem?_eq_getElem hi] at this
theorem stamp_secOf {s : Nat} (h : s < G32) (P : List UInt8) (i : Nat) : num ((secOf s P i).take 4) ≤ s ∧ num ((secOf s P i).drop 60) ≤ s := by
  obtain ⟨e1, _, e3⟩ := parts3 (Y := be 4 (s : Int)) (length_be 4 (s : Int)) (chunk_len P i)
  rw [← secOf_eq] at e1 e3
  rw [e1, e3, num_be4 h]
  exact ⟨Nat.le_refl _, Nat.le_refl _⟩
theorem stamp_Z (B : Nat) : num (Z64.take 4) ≤ B ∧ num (Z64.drop 60) ≤ B := by
  rw [List.take_replicate, List.drop_replicate, num_rep0, num_rep0]; exact ⟨Nat.zero_le _, Nat.zero_le _⟩
theorem stamp_enc {B : Nat} : ∀ (rs : Rs) (c a : Nat), (∀ r ∈ rs, GoodR r ∧ r.1 ≤ B) → a < (encAll c rs).length → num (((encAll c rs).getD a []).take 4) ≤ B ∧ num (((encAll c rs).getD a []).drop 60) ≤ B
  | [], _, _, _, h => by simp [encAll] at h
  | r :: rs, c, a, hg, h => by
    obtain ⟨h1, h2⟩ := hg r (by simp)
    simp only [encAll] at h ⊢
    rw [getD_app, secs_len]
    split
    · rename_i hlt
      rw [secs_getD hlt]
      have := stamp_secOf h1.lt (payload c r.2) a
      omega
    · rename_i hlt
      rw [List.length_append, secs_len] at h
      exact stamp_enc rs (c + 1) _ (fun x hx => hg x (by simp [hx])) (by omega)
end Go.Proofs.Ytejbbpofamfhiaa
