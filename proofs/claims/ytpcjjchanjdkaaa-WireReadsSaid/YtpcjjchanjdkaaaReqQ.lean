/- What bytes that are read lead back to: plain. -/
import Derived.Test.YtpcjjchanjdkaaaReqP
namespace Go.Proofs.Ytpcjjchanjdkaaa
set_option linter.unusedVariables false
set_option linter.unusedSimpArgs false
open Go Go.SL

theorem rdn_inv {n : Nat} {s : RS} {t : List UInt8} (h : (rdn n s).2 = (t, false)) : s = (be n ((rdn n s).1 : Nat) ++ t, false) ∧ (rdn n s).1 < 256 ^ n := by
  obtain ⟨bs, bad⟩ := s
  refine ⟨?_, rdn_lt (s' := (rdn n (bs, bad)).2) (by rfl)⟩
  unfold rdn rdT at h ⊢
  by_cases hc : bad = true ∨ bs.length < n
  · rw [if_pos hc] at h
    exact absurd (Prod.mk.inj h).2 (by decide)
  · rw [if_neg hc] at h ⊢
    have h1 : bs.drop n = t := (Prod.mk.inj h).1
    have hb : bad = false := by cases bad <;> simp at hc ⊢
    have hl : (bs.take n).length = n := by
      rw [List.length_take]
      have : ¬ bs.length < n := fun x => hc (.inr x)
      omega
    rw [hb]
    dsimp only
    rw [be_num hl, ← h1, List.take_append_drop]
theorem rdn_led (n : Nat) (s : RS) (h : (rdn n s).1 < 256 ^ n) : (0 : Int) ≤ ((rdn n s).1 : Nat) ∧ (((rdn n s).1 : Nat) : Int) < 256 ^ n := by
  have h2 : ((256 ^ n : Nat) : Int) = (256 : Int) ^ n := Int.natCast_pow 256 n
  rw [← h2]
  omega
theorem p16 : (256 : Nat) ^ 16 = M128 := by decide +kernel
theorem rdAcc_inv (s : RS) (a : AccS) (rest : List UInt8) (h : rdAcc s = (a, (rest, false))) : s = (accB a ++ rest, false) ∧ AccOk a := by
  unfold rdAcc at h
  obtain ⟨h1, h2⟩ := Prod.mk.inj h
  obtain ⟨e3, l3⟩ := rdn_inv h2
  obtain ⟨e2, l2⟩ := rdn_inv e3
  obtain ⟨e1, l1⟩ := rdn_inv e2
  subst h1
  exact ⟨e1.trans (by simp only [accB, List.append_assoc]; rfl), ⟨p16 ▸ l1, rdn_led 4 _ l2, rdn_led 2 _ l3⟩⟩
theorem rdTr_inv (s : RS) (a : TrS) (rest : List UInt8) (h : rdTr s = (a, (rest, false))) : s = (trB a ++ rest, false) ∧ TrOk a := by
  unfold rdTr at h
  obtain ⟨h1, h2⟩ := Prod.mk.inj h
  obtain ⟨e8, l8⟩ := rdn_inv h2
  obtain ⟨e7, l7⟩ := rdn_inv e8
  obtain ⟨e6, l6⟩ := rdn_inv e7
  obtain ⟨e5, l5⟩ := rdn_inv e6
  obtain ⟨e4, l4⟩ := rdn_inv e5
  obtain ⟨e3, l3⟩ := rdn_inv e4
  obtain ⟨e2, l2⟩ := rdn_inv e3
  obtain ⟨e1, l1⟩ := rdn_inv e2
  subst h1
  exact ⟨e1.trans (by simp only [trB, List.append_assoc]; rfl), ⟨p16 ▸ l1, p16 ▸ l2, p16 ▸ l3, p16 ▸ l4, p16 ▸ l5, rdn_led 4 _ l6, rdn_led 4 _ l7, rdn_led 2 _ l8⟩⟩
theorem rdMany_inv {α : Type} (g : RS → α × RS) (f : α → List UInt8) (Ok : α → Prop) (h : ∀ s a rest, g s = (a, (rest, false)) → s = (f a ++ rest, false) ∧ Ok a) :
    ∀ (n : Nat) (s : RS) (rest : List UInt8), (rdMany g n s).2 = (rest, false) → s = (((rdMany g n s).1.map f).flatten ++ rest, false) ∧ ∀ a ∈ (rdMany g n s).1, Ok a
  | 0, s, rest, hs => ⟨by simpa [rdMany] using hs, by simp [rdMany]⟩
  | n + 1, s, rest, hs => by
    have h1 : (g (rdMany g n s).2).2 = (rest, false) := hs
    obtain ⟨e1, o1⟩ := h _ _ rest (Prod.ext rfl h1)
    obtain ⟨e2, o2⟩ := rdMany_inv g f Ok h n s _ e1
    refine ⟨e2.trans ?_, fun a ha => ?_⟩
    · show _ = (((((rdMany g n s).1 ++ [(g (rdMany g n s).2).1]).map f).flatten ++ rest), false)
      rw [List.map_append, List.flatten_append, List.append_assoc]
      simp
    · rcases List.mem_append.1 ha with ha | ha
      · exact o2 a ha
      · rw [List.mem_singleton.1 ha]; exact o1
theorem rdBody_inv (k : Nat) (s : RS) (rest : List UInt8) (q : RQ) (h : rdBody k s = (q, 0, (rest, false))) : s = (bodyB q ++ rest, false) ∧ TameOk q ∧ q.kind = k := by
  have hM : 0 < M128 := by decide
  have z1 : (0 : Int) ≤ 0 ∧ (0 : Int) < 256 ^ 1 := by decide
  have nilA : ∀ a ∈ ([] : List AccS), AccOk a := by simp
  have nilT : ∀ t ∈ ([] : List TrS), TrOk t := by simp
  unfold rdBody at h
  by_cases k1 : k = 1
  · subst k1
    rw [if_pos rfl] at h
    by_cases h8 : 8 < (rdn 1 s).1
    · simp only [if_pos h8] at h
      exact absurd (Prod.mk.inj (Prod.mk.inj h).2).1 (by decide)
    · simp only [if_neg h8] at h
      obtain ⟨rfl, h2⟩ := Prod.mk.inj h
      obtain ⟨e2, o2⟩ := rdMany_inv rdAcc accB AccOk rdAcc_inv _ _ rest (Prod.mk.inj h2).2
      obtain ⟨e1, l1⟩ := rdn_inv e2
      have hl := rdMany_len rdAcc (rdn 1 s).1 (rdn 1 s).2
      refine ⟨e1.trans ?_, ⟨by dsimp only; omega, hM, by dsimp only; omega, by simp, o2, nilT, by simp, by simp, z1, fun _ => rfl, fun h => (by dsimp only at h; omega), fun h => (by dsimp only at h; omega), fun h => (by dsimp only at h; omega), fun h => (by dsimp only at h; omega), fun h => (by dsimp only at h; omega)⟩, rfl⟩
      unfold bodyB
      dsimp only
      rw [if_pos (show ((1 : Nat) : Int) = 1 from rfl)]
      rw [hl, List.append_assoc]
  rw [if_neg k1] at h
  by_cases k2 : k = 2
  · subst k2
    rw [if_pos rfl] at h
    by_cases h8 : 8 < (rdn 1 s).1
    · simp only [if_pos h8] at h
      exact absurd (Prod.mk.inj (Prod.mk.inj h).2).1 (by decide)
    · simp only [if_neg h8] at h
      obtain ⟨rfl, h2⟩ := Prod.mk.inj h
      obtain ⟨e2, o2⟩ := rdMany_inv rdTr trB TrOk rdTr_inv _ _ rest (Prod.mk.inj h2).2
      obtain ⟨e1, l1⟩ := rdn_inv e2
      have hl := rdMany_len rdTr (rdn 1 s).1 (rdn 1 s).2
      refine ⟨e1.trans ?_, ⟨by dsimp only; omega, hM, by simp, by dsimp only; omega, nilA, o2, by simp, by simp, z1, fun h => (by dsimp only at h; omega), fun _ => rfl, fun h => (by dsimp only at h; omega), fun h => (by dsimp only at h; omega), fun h => (by dsimp only at h; omega), fun h => (by dsimp only at h; omega)⟩, rfl⟩
      unfold bodyB
      dsimp only
      rw [if_neg (show ¬ ((2 : Nat) : Int) = 1 by decide), if_pos (show ((2 : Nat) : Int) = 2 from rfl)]
      rw [hl, List.append_assoc]
  rw [if_neg k2] at h
  have i1 : ¬ (k : Int) = 1 := by omega
  have i2 : ¬ (k : Int) = 2 := by omega
  by_cases k3 : k = 3
  · subst k3
    rw [if_pos rfl] at h
    obtain ⟨rfl, h2⟩ := Prod.mk.inj h
    obtain ⟨e1, l1⟩ := rdn_inv (Prod.mk.inj h2).2
    have b1 := rdn_led 4 _ l1
    refine ⟨e1.trans ?_, ⟨by dsimp only; omega, hM, by simp, by simp, nilA, nilT, b1.1, by simp, z1, fun h => (by dsimp only at h; omega), fun h => (by dsimp only at h; omega), fun _ => ⟨rfl, b1.2⟩, fun h => (by dsimp only at h; omega), fun h => (by dsimp only at h; omega), fun h => (by dsimp only at h; omega)⟩, rfl⟩
    unfold bodyB
    dsimp only
    rw [if_neg (show ¬ ((3 : Nat) : Int) = 1 by decide), if_neg (show ¬ ((3 : Nat) : Int) = 2 by decide), if_pos (show ((3 : Nat) : Int) = 3 from rfl)]
  rw [if_neg k3] at h
  have i3 : ¬ (k : Int) = 3 := by omega
  by_cases k4 : k = 4 ∨ k = 5 ∨ k = 7
  · rw [if_pos k4] at h
    have i4 : (k : Int) = 4 ∨ (k : Int) = 5 ∨ (k : Int) = 7 := by omega
    obtain ⟨rfl, h2⟩ := Prod.mk.inj h
    obtain ⟨e1, l1⟩ := rdn_inv (Prod.mk.inj h2).2
    refine ⟨e1.trans ?_, ⟨by dsimp only; omega, p16 ▸ l1, by simp, by simp, nilA, nilT, by simp, by simp, z1, fun h => absurd h i1, fun h => absurd h i2, fun h => absurd h i3, fun _ => rfl, fun h => (by dsimp only at h; omega), fun h => (by dsimp only at h; omega)⟩, rfl⟩
    unfold bodyB
    dsimp only
    rw [if_neg i1, if_neg i2, if_neg i3, if_pos i4]; rfl
  rw [if_neg k4] at h
  have i4 : ¬ ((k : Int) = 4 ∨ (k : Int) = 5 ∨ (k : Int) = 7) := by omega
  by_cases k6 : k = 6 ∨ k = 8
  · rw [if_pos k6] at h
    have i6 : (k : Int) = 6 ∨ (k : Int) = 8 := by omega
    obtain ⟨rfl, h2⟩ := Prod.mk.inj h
    obtain ⟨e4, l4⟩ := rdn_inv (Prod.mk.inj h2).2
    obtain ⟨e3, l3⟩ := rdn_inv e4
    obtain ⟨e2, l2⟩ := rdn_inv e3
    obtain ⟨e1, l1⟩ := rdn_inv e2
    have b2 := rdn_led 6 _ l2
    have b3 := rdn_led 6 _ l3
    have b4 := rdn_led 1 _ l4
    refine ⟨e1.trans ?_, ⟨by dsimp only; omega, p16 ▸ l1, by simp, by simp, nilA, nilT, b2.1, b3.1, b4, fun h => absurd h i1, fun h => absurd h i2, fun h => absurd h i3, fun h => absurd h i4, fun _ => ⟨rfl, b2.2, b3.2⟩, fun h => (by dsimp only at h; omega)⟩, rfl⟩
    unfold bodyB
    dsimp only
    rw [if_neg i1, if_neg i2, if_neg i3, if_neg i4, if_pos i6]
    simp only [List.append_assoc]; rfl
  rw [if_neg k6] at h
  have i6 : ¬ ((k : Int) = 6 ∨ (k : Int) = 8) := by omega
  by_cases k9 : k = 9
  · subst k9
    rw [if_pos rfl] at h
    obtain ⟨rfl, h2⟩ := Prod.mk.inj h
    obtain ⟨e2, l2⟩ := rdn_inv (Prod.mk.inj h2).2
    obtain ⟨e1, l1⟩ := rdn_inv e2
    have b1 := rdn_led 4 _ l1
    have b2 := rdn_led 4 _ l2
    refine ⟨e1.trans ?_, ⟨by dsimp only; omega, hM, by simp, by simp, nilA, nilT, b1.1, b2.1, z1, fun h => absurd h i1, fun h => absurd h i2, fun h => absurd h i3, fun h => absurd h i4, fun h => absurd h i6, fun _ => ⟨rfl, b1.2, b2.2⟩⟩, rfl⟩
    unfold bodyB
    dsimp only
    rw [if_neg i1, if_neg i2, if_neg i3, if_neg i4, if_neg i6, if_pos (show ((9 : Nat) : Int) = 9 from rfl)]
    simp only [List.append_assoc]
  · rw [if_neg k9] at h
    exact absurd (Prod.mk.inj (Prod.mk.inj h).2).1 (by decide)
theorem readReq_inv {bs : List UInt8} {q : RQ} (h : readReq bs = (q, 0)) : reqB q = bs ∧ TameOk q := by
  unfold readReq at h
  dsimp only at h
  by_cases h1 : (rdBody (rdn 1 (bs, false)).1 (rdn 1 (bs, false)).2).2.1 ≠ 0
  · rw [if_pos h1] at h
    exact absurd (Prod.mk.inj h).2 h1
  rw [if_neg h1] at h
  by_cases h2 : (rdBody (rdn 1 (bs, false)).1 (rdn 1 (bs, false)).2).2.2.2 = true ∨ (rdBody (rdn 1 (bs, false)).1 (rdn 1 (bs, false)).2).2.2.1 ≠ []
  · rw [if_pos h2] at h
    exact absurd (Prod.mk.inj h).2 (by decide)
  rw [if_neg h2] at h
  have h3 : rdBody (rdn 1 (bs, false)).1 (rdn 1 (bs, false)).2 = (q, 0, ([], false)) := by
    have a1 := (Prod.mk.inj h).1
    have a2 : (rdBody (rdn 1 (bs, false)).1 (rdn 1 (bs, false)).2).2.1 = 0 := Classical.not_not.1 h1
    have a3 : (rdBody (rdn 1 (bs, false)).1 (rdn 1 (bs, false)).2).2.2.2 = false := by
      cases hx : (rdBody (rdn 1 (bs, false)).1 (rdn 1 (bs, false)).2).2.2.2 with
      | false => rfl
      | true => exact absurd (.inl hx) h2
    have a4 : (rdBody (rdn 1 (bs, false)).1 (rdn 1 (bs, false)).2).2.2.1 = [] := Classical.not_not.1 fun hx => h2 (.inr hx)
    exact Prod.ext a1 (Prod.ext a2 (Prod.ext a4 a3))
  obtain ⟨e2, ok, hk⟩ := rdBody_inv _ _ _ _ h3
  obtain ⟨e1, _⟩ := rdn_inv e2
  refine ⟨?_, ok⟩
  have := (Prod.mk.inj e1).1
  rw [this]
  unfold reqB
  rw [hk, List.append_nil]
theorem readReq_less {q : RQ} (h : TameOk q) : ∃ e, (readReq ((reqB q).take ((reqB q).length - 1))).2 = e ∧ e ≠ 0 := by
  refine ⟨_, rfl, fun h0 => ?_⟩
  have hp : reqB q ≠ [] := by
    intro hx
    have := congrArg List.length hx
    unfold reqB at this
    simp at this
  have h1 : readReq ((reqB q).take ((reqB q).length - 1)) = ((readReq ((reqB q).take ((reqB q).length - 1))).1, 0) := Prod.ext rfl h0
  obtain ⟨h2, h3⟩ := readReq_inv h1
  have h4 := readReq_more _ h3 ((reqB q).getLast hp)
  rw [h2, ← List.dropLast_eq_take, List.dropLast_concat_getLast hp, readReq_B q h] at h4
  exact absurd (Prod.mk.inj h4).2 (by decide)
end Go.Proofs.Ytpcjjchanjdkaaa
