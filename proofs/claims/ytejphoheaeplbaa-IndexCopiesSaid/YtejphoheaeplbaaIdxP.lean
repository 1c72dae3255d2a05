/- Plain law of the index: entries in order, insertion, a node's entries between its kids': no program in sight. -/
import Derived.Test.YtejphoheaeplbaaCore
namespace Go.SL
set_option linter.unusedVariables false
set_option linter.unusedSimpArgs false

abbrev En := Nat × Int
def ins (k : Nat) (v : Int) : List En → List En
  | [] => [(k, v)]
  | e :: l => if k < e.1 then (k, v) :: e :: l else if k = e.1 then (k, v) :: l else e :: ins k v l
abbrev Srt (l : List En) : Prop := l.Pairwise fun a b => a.1 < b.1
def lkp (k : Nat) : List En → Option Int
  | [] => none
  | e :: l => if k = e.1 then some e.2 else lkp k l
/-- The place of a key: the first entry that isn't less. -/
def pl (k : Nat) : List En → Nat
  | [] => 0
  | e :: l => if k ≤ e.1 then 0 else pl k l + 1
def hit (k : Nat) (es : List En) : Bool := decide ((es[pl k es]?).map (·.1) = some k)
def wl : List (List En) → List En → List En
  | t :: ts, e :: es => t ++ e :: wl ts es
  | _, _ => []
def wr : List En → List (List En) → List En
  | e :: es, t :: ts => e :: t ++ wr es ts
  | _, _ => []
def weave : List (List En) → List En → List En
  | t :: ts, e :: es => t ++ e :: weave ts es
  | t :: _, [] => t
  | [], _ => []

theorem pl_le (k : Nat) : ∀ es, pl k es ≤ es.length
  | [] => Nat.le_refl _
  | e :: es => by
    have := pl_le k es
    simp only [pl]; split <;> simp <;> omega
theorem pl_lt (k : Nat) : ∀ es : List En, ∀ e ∈ es.take (pl k es), e.1 < k
  | [], e, h => by simp at h
  | a :: es, e, h => by
    simp only [pl] at h
    split at h
    · simp at h
    · rw [List.take_succ_cons] at h
      rcases List.mem_cons.1 h with rfl | h
      · omega
      · exact pl_lt k es e h
theorem pl_ge (k : Nat) : ∀ (es : List En) (h : pl k es < es.length), k ≤ es[pl k es].1
  | [], h => by simp at h
  | a :: es, h => by
    by_cases hk : k ≤ a.1
    · have h0 : pl k (a :: es) = 0 := by simp only [pl]; rw [if_pos hk]
      simp only [h0, List.getElem_cons_zero]; exact hk
    · have h0 : pl k (a :: es) = pl k es + 1 := by simp only [pl]; rw [if_neg hk]
      have := pl_ge k es (by rw [h0] at h; simpa using h)
      simp only [h0, List.getElem_cons_succ]; exact this
/-- Told by its bounds. -/
theorem pl_eq {k i : Nat} {es : List En} (hi : i ≤ es.length) (h1 : ∀ e ∈ es.take i, e.1 < k) (h2 : ∀ h : i < es.length, k ≤ es[i].1) : pl k es = i := by
  induction es generalizing i with
  | nil => simp at hi; subst hi; rfl
  | cons a es ih =>
    cases i with
    | zero =>
      have := h2 (by simp)
      simp only [List.getElem_cons_zero] at this
      simp only [pl]; rw [if_pos this]
    | succ i =>
      have ha : a.1 < k := h1 a (by simp)
      simp only [pl]; rw [if_neg (by omega)]
      have := ih (i := i) (by simpa using hi) (fun e he => h1 e (by simp [he])) (fun h => by have := h2 (by simpa using h); rwa [List.getElem_cons_succ] at this)
      omega
theorem hit_true {k : Nat} {es : List En} (h : hit k es = true) : ∃ hl : pl k es < es.length, es[pl k es].1 = k := by
  have h := of_decide_eq_true h
  rcases Nat.lt_or_ge (pl k es) es.length with hl | hl
  · refine ⟨hl, ?_⟩
    rw [List.getElem?_eq_getElem hl] at h
    simpa using h
  · rw [List.getElem?_eq_none hl] at h; cases h
theorem hit_false {k : Nat} {es : List En} (h : hit k es = false) (hl : pl k es < es.length) : k < es[pl k es].1 := by
  have h1 := of_decide_eq_false h
  rw [List.getElem?_eq_getElem hl] at h1
  have h2 := pl_ge k es hl
  have : es[pl k es].1 ≠ k := fun h => h1 (by simp [h])
  omega

theorem weave_mid : ∀ (ts1 : List (List En)) (es1 : List En) (t : List En) (ts2 : List (List En)) (es2 : List En), ts1.length = es1.length → ts2.length = es2.length →
    weave (ts1 ++ t :: ts2) (es1 ++ es2) = wl ts1 es1 ++ (t ++ wr es2 ts2)
  | [], [], t, ts2, es2, _, h2 => by
    simp only [List.nil_append, wl]
    induction es2 generalizing t ts2 with
    | nil => cases ts2 with
      | nil => simp [weave, wr]
      | cons _ _ => simp at h2
    | cons e es ih => cases ts2 with
      | nil => simp at h2
      | cons u us =>
        simp only [weave, wr]
        rw [ih u us (by simpa using h2)]
        simp
  | [], _ :: _, _, _, _, h, _ => by simp at h
  | _ :: _, [], _, _, _, h, _ => by simp at h
  | u :: us, e :: es, t, ts2, es2, h1, h2 => by
    simp only [List.cons_append, weave, wl]
    rw [weave_mid us es t ts2 es2 (by simpa using h1) h2]
    simp
theorem weave_part : ∀ (ts1 : List (List En)) (es1 : List En) (e : En) (ts2 : List (List En)) (es2 : List En), ts1.length = es1.length + 1 →
    weave (ts1 ++ ts2) (es1 ++ e :: es2) = weave ts1 es1 ++ e :: weave ts2 es2
  | [t], [], e, ts2, es2, _ => by
    simp [weave]
  | [], _, _, _, _, h => by simp at h
  | _ :: _ :: _, [], _, _, _, h => by simp at h
  | t :: ts, a :: es, e, ts2, es2, h => by
    simp only [List.cons_append, weave]
    rw [weave_part ts es e ts2 es2 (by simpa using h)]
    simp
theorem weave_mem : ∀ {ts : List (List En)} {es : List En} {x : En}, ts.length = es.length + 1 → x ∈ es → x ∈ weave ts es
  | [], _, _, h, _ => by simp at h
  | _, [], _, _, h => by cases h
  | t :: ts, e :: es, x, h, hx => by
    simp only [weave, List.mem_append, List.mem_cons]
    rcases List.mem_cons.1 hx with rfl | hx
    · exact Or.inr (Or.inl rfl)
    · exact Or.inr (Or.inr (weave_mem (by simpa using h) hx))
theorem wl_lt {k : Nat} : ∀ {ts : List (List En)} {es : List En}, Srt (wl ts es) → (∀ e ∈ es, e.1 < k) → ∀ x ∈ wl ts es, x.1 < k
  | [], _, _, _, x, h => by simp [wl] at h
  | _ :: _, [], _, _, x, h => by simp [wl] at h
  | t :: ts, e :: es, hs, hk, x, h => by
    simp only [wl] at hs h
    obtain ⟨h1, h2, h3⟩ := List.pairwise_append.1 hs
    have he := hk e (by simp)
    rcases List.mem_append.1 h with h | h
    · have := h3 x h e (by simp); omega
    · rcases List.mem_cons.1 h with rfl | h
      · exact he
      · exact wl_lt (List.pairwise_cons.1 h2).2 (fun a ha => hk a (by simp [ha])) x h
theorem wr_ge {k : Nat} {es : List En} {ts : List (List En)} (hs : Srt (wr es ts)) (hk : ∀ h : 0 < es.length, k < es[0].1) : ∀ x ∈ wr es ts, k < x.1 := fun x h => by
  cases es with
  | nil => simp [wr] at h
  | cons e es =>
    cases ts with
    | nil => simp [wr] at h
    | cons t ts =>
      simp only [wr] at hs h
      have he := hk (by simp)
      simp only [List.getElem_cons_zero] at he
      rcases List.mem_cons.1 h with rfl | h
      · exact he
      · have := (List.pairwise_cons.1 hs).1 x h; omega
/-! ## insertion -/
theorem ins_low {k : Nat} {v : Int} : ∀ (A B : List En), (∀ a ∈ A, a.1 < k) → ins k v (A ++ B) = A ++ ins k v B
  | [], _, _ => rfl
  | a :: A, B, h => by
    have ha := h a (by simp)
    simp only [List.cons_append, ins]
    rw [if_neg (by omega), if_neg (by omega), ins_low A B fun x hx => h x (by simp [hx])]
theorem ins_high {k : Nat} {v : Int} : ∀ (A B : List En), (∀ b ∈ B, k < b.1) → ins k v (A ++ B) = ins k v A ++ B
  | [], [], _ => rfl
  | [], b :: B, h => by
    have := h b (by simp)
    simp only [List.nil_append, ins]
    rw [if_pos this]; rfl
  | a :: A, B, h => by
    simp only [List.cons_append, ins]
    split
    · rfl
    · split
      · rfl
      · rw [ins_high A B h]; rfl
theorem ins_hit {k : Nat} {v w : Int} {A B : List En} (h : ∀ a ∈ A, a.1 < k) : ins k v (A ++ (k, w) :: B) = A ++ (k, v) :: B := by
  rw [ins_low A _ h]; simp [ins]
theorem lkp_low {k : Nat} : ∀ (A B : List En), (∀ a ∈ A, a.1 ≠ k) → lkp k (A ++ B) = lkp k B
  | [], _, _ => rfl
  | a :: A, B, h => by
    have ha := h a (by simp)
    simp only [List.cons_append, lkp]
    rw [if_neg (Ne.symm ha), lkp_low A B fun x hx => h x (by simp [hx])]
theorem lkp_none {k : Nat} : ∀ {A : List En}, (∀ a ∈ A, a.1 ≠ k) → lkp k A = none
  | [], _ => rfl
  | a :: A, h => by
    have ha := h a (by simp)
    simp only [lkp]
    rw [if_neg (Ne.symm ha), lkp_none fun x hx => h x (by simp [hx])]
theorem lkp_high {k : Nat} : ∀ (A B : List En), (∀ b ∈ B, b.1 ≠ k) → lkp k (A ++ B) = lkp k A
  | [], B, h => by simp only [List.nil_append]; rw [lkp_none h]; rfl
  | a :: A, B, h => by
    simp only [List.cons_append, lkp]
    rw [lkp_high A B h]
theorem lkp_hit {k : Nat} {w : Int} {A B : List En} (h : ∀ a ∈ A, a.1 ≠ k) : lkp k (A ++ (k, w) :: B) = some w := by
  rw [lkp_low A _ h]; simp [lkp]
theorem lkp_ins (k q : Nat) (v : Int) : ∀ l : List En, lkp q (ins k v l) = if q = k then some v else lkp q l
  | [] => by simp [ins, lkp]
  | e :: l => by
    simp only [ins]
    split
    · simp only [lkp]
    · split
      · subst_vars
        simp only [lkp]
        by_cases hq : q = e.1
        · simp [hq]
        · simp [hq]
      · have h1 : e.1 ≠ k := by omega
        simp only [lkp, lkp_ins k q v l]
        by_cases hq : q = e.1
        · subst hq; simp [h1]
        · simp only [if_neg hq]
theorem mem_ins {k : Nat} {v : Int} {x : En} : ∀ {l : List En}, x ∈ ins k v l → x = (k, v) ∨ x ∈ l
  | [], h => by simp [ins] at h; exact Or.inl h
  | e :: l, h => by
    simp only [ins] at h
    split at h
    · rcases List.mem_cons.1 h with h | h
      · exact Or.inl h
      · exact Or.inr h
    · split at h
      · rcases List.mem_cons.1 h with h | h
        · exact Or.inl h
        · exact Or.inr (by simp [h])
      · rcases List.mem_cons.1 h with h | h
        · exact Or.inr (by simp [h])
        · rcases mem_ins h with h | h
          · exact Or.inl h
          · exact Or.inr (by simp [h])
theorem srt_ins {k : Nat} {v : Int} : ∀ {l : List En}, Srt l → Srt (ins k v l)
  | [], _ => by simp [ins]
  | e :: l, h => by
    obtain ⟨h1, h2⟩ := List.pairwise_cons.1 h
    simp only [ins]
    split
    · rename_i hk
      refine List.pairwise_cons.2 ⟨fun a ha => ?_, h⟩
      rcases List.mem_cons.1 ha with rfl | ha
      · exact hk
      · have := h1 a ha; show k < a.1; omega
    · split
      · subst_vars; exact List.pairwise_cons.2 ⟨h1, h2⟩
      · refine List.pairwise_cons.2 ⟨fun a ha => ?_, srt_ins h2⟩
        rcases mem_ins ha with rfl | ha
        · show e.1 < k; omega
        · exact h1 a ha
theorem len_ins (k : Nat) (v : Int) : ∀ {l : List En}, Srt l → (ins k v l).length = l.length + cond (lkp k l).isNone 1 0
  | [], _ => by simp [ins, lkp]
  | e :: l, h => by
    obtain ⟨h1, h2⟩ := List.pairwise_cons.1 h
    simp only [ins, lkp]
    split
    · rename_i hk
      rw [if_neg (by omega), lkp_none fun a ha => by have := h1 a ha; omega]
      simp
    · split
      · rename_i hk; simp
      · rename_i hk
        simp only [List.length_cons, len_ins k v h2]; omega
theorem lkp_mem {k : Nat} {v : Int} : ∀ {l : List En}, lkp k l = some v → (k, v) ∈ l
  | [], h => by cases h
  | e :: l, h => by
    simp only [lkp] at h
    split at h
    · rename_i hk; cases h; subst hk; simp
    · exact List.mem_cons_of_mem _ (lkp_mem h)
theorem lkp_of_mem {k : Nat} {v : Int} : ∀ {l : List En}, Srt l → (k, v) ∈ l → lkp k l = some v
  | [], _, h => by cases h
  | e :: l, hs, h => by
    obtain ⟨h1, h2⟩ := List.pairwise_cons.1 hs
    simp only [lkp]
    rcases List.mem_cons.1 h with rfl | h
    · simp
    · rw [if_neg (by have := h1 _ h; simp only at this; omega)]; exact lkp_of_mem h2 h
/-- Entries in order are told by what they answer. -/
theorem srt_ext : ∀ {l m : List En}, Srt l → Srt m → (∀ k, lkp k l = lkp k m) → l = m
  | [], [], _, _, _ => rfl
  | [], b :: m, _, _, h => by have := h b.1; simp [lkp] at this
  | a :: l, [], _, _, h => by have := h a.1; simp [lkp] at this
  | a :: l, b :: m, hl, hm, h => by
    obtain ⟨l1, l2⟩ := List.pairwise_cons.1 hl
    obtain ⟨m1, m2⟩ := List.pairwise_cons.1 hm
    have hab : a = b := by
      have ha : lkp a.1 (b :: m) = some a.2 := by rw [← h a.1]; simp [lkp]
      have hb : lkp b.1 (a :: l) = some b.2 := by rw [h b.1]; simp [lkp]
      rcases List.mem_cons.1 (lkp_mem ha) with e | e
      · exact e
      · rcases List.mem_cons.1 (lkp_mem hb) with e2 | e2
        · exact e2.symm
        · have x1 := m1 _ e; have x2 := l1 _ e2; simp only at x1 x2; omega
    subst hab
    rw [srt_ext l2 m2 fun k => ?_]
    by_cases hk : k = a.1
    · subst hk
      rw [lkp_none fun x hx => by have := l1 x hx; omega, lkp_none fun x hx => by have := m1 x hx; omega]
    · have := h k
      simp only [lkp, if_neg hk] at this
      exact this
/-- What a node's search says of all that is under it. -/
theorem node_hit {k : Nat} {v : Int} {ts : List (List En)} {es : List En} (hl : ts.length = es.length + 1) (hs : Srt (weave ts es)) (h : hit k es = true) :
    ins k v (weave ts es) = weave ts (es.set (pl k es) (k, v)) ∧ lkp k (weave ts es) = (es[pl k es]?).map (·.2) := by
  obtain ⟨hp, hk⟩ := hit_true h
  have e1 : es = es.take (pl k es) ++ es[pl k es] :: es.drop (pl k es + 1) := by rw [List.getElem_cons_drop, List.take_append_drop]
  have e2 : ts = ts.take (pl k es + 1) ++ ts.drop (pl k es + 1) := (List.take_append_drop _ _).symm
  have hw : weave ts es = weave (ts.take (pl k es + 1)) (es.take (pl k es)) ++ es[pl k es] :: weave (ts.drop (pl k es + 1)) (es.drop (pl k es + 1)) := by
    have := weave_part (ts.take (pl k es + 1)) (es.take (pl k es)) es[pl k es] (ts.drop (pl k es + 1)) (es.drop (pl k es + 1)) (by simp only [List.length_take]; omega)
    rwa [← e2, ← e1] at this
  have hlow : ∀ a ∈ weave (ts.take (pl k es + 1)) (es.take (pl k es)), a.1 < k := by
    intro a ha
    rw [hw] at hs
    have := (List.pairwise_append.1 hs).2.2 a ha es[pl k es] (by simp)
    rw [hk] at this; exact this
  have hpair : es[pl k es] = (k, es[pl k es].2) := Prod.ext hk rfl
  constructor
  · rw [hw, hpair, ins_hit hlow]
    have e3 : es.set (pl k es) (k, v) = es.take (pl k es) ++ (k, v) :: es.drop (pl k es + 1) := by rw [List.set_eq_take_append_cons_drop, if_pos hp]
    rw [e3]
    have := weave_part (ts.take (pl k es + 1)) (es.take (pl k es)) (k, v) (ts.drop (pl k es + 1)) (es.drop (pl k es + 1)) (by simp only [List.length_take]; omega)
    rw [← e2] at this
    exact this.symm
  · rw [hw, hpair, lkp_hit fun a ha => by have := hlow a ha; omega, List.getElem?_eq_getElem hp]
    rfl
theorem node_miss {k : Nat} {v : Int} {ts : List (List En)} {es : List En} (hl : ts.length = es.length + 1) (hs : Srt (weave ts es)) (h : hit k es = false) (hp : pl k es < ts.length) :
    ins k v (weave ts es) = weave (ts.set (pl k es) (ins k v ts[pl k es])) es ∧ lkp k (weave ts es) = lkp k ts[pl k es] ∧ Srt ts[pl k es] ∧ ∀ x ∈ ts[pl k es], x ∈ weave ts es := by
  have e1 : es = es.take (pl k es) ++ es.drop (pl k es) := (List.take_append_drop _ _).symm
  have e2 : ts = ts.take (pl k es) ++ ts[pl k es] :: ts.drop (pl k es + 1) := by rw [List.getElem_cons_drop, List.take_append_drop]
  have hle := pl_le k es
  have hm : ∀ t, weave (ts.take (pl k es) ++ t :: ts.drop (pl k es + 1)) es = wl (ts.take (pl k es)) (es.take (pl k es)) ++ (t ++ wr (es.drop (pl k es)) (ts.drop (pl k es + 1))) := fun t => by
    have := weave_mid (ts.take (pl k es)) (es.take (pl k es)) t (ts.drop (pl k es + 1)) (es.drop (pl k es)) (by simp only [List.length_take]; omega) (by simp only [List.length_drop]; omega)
    rwa [← e1] at this
  have hw := hm ts[pl k es]
  rw [← e2] at hw
  rw [hw] at hs
  have hlow := wl_lt (List.pairwise_append.1 hs).1 (pl_lt k es)
  have hsr := (List.pairwise_append.1 (List.pairwise_append.1 hs).2.1)
  have hhigh : ∀ x ∈ wr (es.drop (pl k es)) (ts.drop (pl k es + 1)), k < x.1 := wr_ge hsr.2.1 (fun h0 => by
    have hlt : pl k es < es.length := by simp only [List.length_drop] at h0; omega
    rw [List.getElem_drop]
    simpa using hit_false h hlt)
  refine ⟨?_, ?_, hsr.1, fun x hx => ?_⟩
  · rw [hw, ins_low _ _ hlow, ins_high _ _ hhigh]
    rw [List.set_eq_take_append_cons_drop, if_pos hp, hm]
  · rw [hw, lkp_low _ _ (fun a ha => by have := hlow a ha; omega), lkp_high _ _ (fun a ha => by have := hhigh a ha; omega)]
  · rw [hw]; simp [hx]
theorem leaf_hit {k : Nat} {v : Int} {es : List En} (h : hit k es = true) : ins k v es = es.set (pl k es) (k, v) ∧ lkp k es = (es[pl k es]?).map (·.2) := by
  obtain ⟨hp, hk⟩ := hit_true h
  have e1 : es = es.take (pl k es) ++ es[pl k es] :: es.drop (pl k es + 1) := by rw [List.getElem_cons_drop, List.take_append_drop]
  have hpair : es[pl k es] = (k, es[pl k es].2) := Prod.ext hk rfl
  have hlow := pl_lt k es
  constructor
  · have := ins_hit (v := v) (w := es[pl k es].2) (B := es.drop (pl k es + 1)) hlow
    rw [← hpair, ← e1] at this
    rw [this, List.set_eq_take_append_cons_drop, if_pos hp]
  · have := lkp_hit (w := es[pl k es].2) (B := es.drop (pl k es + 1)) (k := k) (A := es.take (pl k es)) fun a ha => by have := hlow a ha; omega
    rw [← hpair, ← e1] at this
    rw [this, List.getElem?_eq_getElem hp]; rfl
theorem leaf_miss {k : Nat} {v : Int} {es : List En} (hs : Srt es) (h : hit k es = false) : ins k v es = es.take (pl k es) ++ (k, v) :: es.drop (pl k es) ∧ lkp k es = none := by
  have hlow := pl_lt k es
  have e1 : es = es.take (pl k es) ++ es.drop (pl k es) := (List.take_append_drop _ _).symm
  have hhigh : ∀ x ∈ es.drop (pl k es), k < x.1 := by
    intro x hx
    rcases Nat.lt_or_ge (pl k es) es.length with hp | hp
    · have hf := hit_false h hp
      have hd : es.drop (pl k es) = es[pl k es] :: es.drop (pl k es + 1) := by rw [List.getElem_cons_drop]
      rw [hd] at hx
      rw [e1, hd] at hs
      have := (List.pairwise_cons.1 (List.pairwise_append.1 hs).2.1).1
      rcases List.mem_cons.1 hx with rfl | hx
      · exact hf
      · have := this x hx; omega
    · rw [List.drop_eq_nil_of_le hp] at hx; cases hx
  constructor
  · have hi := ins_low (v := v) _ (es.drop (pl k es)) hlow
    rw [← e1] at hi
    rw [hi]
    cases hd : es.drop (pl k es) with
    | nil => rfl
    | cons a l =>
      have := hhigh a (by rw [hd]; simp)
      simp only [ins]; rw [if_pos this]
  · have hi := lkp_low (k := k) (es.take (pl k es)) (es.drop (pl k es)) (fun a ha => by have := hlow a ha; omega)
    rw [← e1] at hi
    rw [hi, lkp_none fun a ha => by have := hhigh a ha; omega]
end Go.SL
