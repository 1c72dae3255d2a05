/- Slices that have their row for themselves: their parts, cut short, stored into; many parts as one: no program in sight. -/
import Derived.Test.YtejbbpofamfhiaaLaw
namespace Go.SL
set_option linter.unusedVariables false
set_option linter.unusedSimpArgs false
open Go

theorem addr_add3 (a : Addr) (i j : Nat) : (a.add i).add j = a.add (i + j) := by
  unfold Addr.add
  by_cases h : i = 0
  · subst h; simp
  · by_cases hj : j = 0
    · subst hj; simp
    · have : i + j ≠ 0 := by omega
      simp [h, hj, this, Nat.add_assoc]
def cutS (p : Option Addr) (i cap s : Nat) : Option Addr := if cap = i then p else p.map (·.add (i * s))
section
variable {P : Program} {op : Op} {ty t e T : TypeId} {n : FN} {f : Nat → Value} {w0 : World} {As Bs : List Asn} {x y : Operand} {v : Value} {s : Nat}
theorem ps_sl_lg {lo : Operand} {p : Option Addr} {len cap : Nat} {k : IntKind} {j : Int} (ht : P.underlying t = some (.slice e)) (hs : SZ P e s) (h : ev n f x = .slice p len cap) (hj : ev n f lo = .int k j) (h0 : 0 ≤ j) (h1 : j ≤ len) :
    PS P (.slice t x (some lo) none none) ty n f (.slice (cutS p j.toNat cap s) (len - j.toNat) (cap - j.toNat)) := fun o' ho _ w => by
  simp [execOp, ho, h, hj, Instr.sliceAt, Instr.slice, run_underlying ht, Instr.sliceBounds, Instr.sliceBound, asIntOf, h0, h1, Go.SL.run_sizeOf hs, cutS]
/-- What such a slice reads. -/
theorem Src.ownG {m d : Nat} {q : Option Addr} {xs : List Value} (hp : As.Perm (slOwn e s (.slice q m d) m xs :: Bs)) (hq : xs ≠ [] → ∃ g, q = some ⟨g, 0, none⟩) : Src As q xs := by
  intro hne
  obtain ⟨g, rfl⟩ := hq hne
  refine ⟨_, rfl, fun w0 w hw j u hj => ?_⟩
  obtain ⟨L, a1, L1, L2, a3, a4, a5⟩ := hw.perm hp
  rcases a4.2 with ⟨b1, _⟩ | ⟨g', cap, cur, b1, b2, b3, b4, b5, b6⟩
  · cases b1
  · cases b1
    have hgg : w.heap[g]? = some (.cells cur.toArray e (0, 0)) := a1.mem (g, _) (a3.mem_iff.2 (List.mem_append_left _ (by rw [b6]; exact List.mem_singleton.2 rfl)))
    rw [add_mk, cell_of_blk hgg]
    rw [← b5, List.getElem?_take] at hj
    split at hj
    · simpa using hj
    · cases hj
theorem Src.dropS {p : Option Addr} {xs : List Value} {i cap : Nat} (h : Src As p xs) (hc : xs.length ≤ cap * s) : Src As (cutS p i cap s) (xs.drop (i * s)) := by
  intro hne
  have hlt : i * s < xs.length := by
    rcases Nat.lt_or_ge (i * s) xs.length with h | h
    · exact h
    · rw [List.drop_of_length_le h] at hne; exact absurd rfl hne
  obtain ⟨a, h1, h2⟩ := h (fun h0 => by subst h0; simp at hlt)
  subst h1
  have hci : cap ≠ i := fun h => by subst h; omega
  refine ⟨a.add (i * s), by unfold cutS; rw [if_neg hci]; rfl, fun w0 w hw k u hk => ?_⟩
  rw [addr_add3]
  refine h2 w0 w hw (i * s + k) u ?_
  rw [List.getElem?_drop] at hk
  exact hk
theorem Src.part {b o : Nat} {xs vs : List Value} {i : Nat} (h : Src As (some ⟨b, o, none⟩) xs) (hv : (xs.drop i).take vs.length = vs) : Src As (some ⟨b, o + i, none⟩) vs := by
  intro hne
  obtain ⟨a, h1, h2⟩ := h (fun h0 => by
    rw [h0] at hv; simp at hv; exact hne hv)
  cases h1
  refine ⟨_, rfl, fun w0 w hw k u hk => ?_⟩
  have := h2 w0 w hw (i + k) u (by
    rw [← hv, List.getElem?_take] at hk
    split at hk
    · rwa [List.getElem?_drop] at hk
    · cases hk)
  rw [add_mk] at this ⊢
  rwa [Nat.add_assoc]
/-- Cut short. -/
theorem Ent.slTake {q : Option Addr} {m d : Nat} {xs : List Value} (i : Nat) (hi : i ≤ m) (Bs : List Asn) : Ent (slOwn e s (.slice q m d) m xs :: Bs) (slOwn e s (.slice q i d) i (xs.take (i * s)) :: Bs) := fun L h => by
  obtain ⟨L1, L2, a1, a2, a3⟩ := h
  refine ⟨L1, L2, a1, ?_, a3⟩
  obtain ⟨b0, b | ⟨g, cap, cur, b1, b2, b3, b4, b5, b6⟩⟩ := a2
  · obtain ⟨b1, b2, b3⟩ := b
    cases b1
    have hi0 : i = 0 := by omega
    subst hi0
    exact ⟨by simp, .inl ⟨rfl, rfl, b3⟩⟩
  · cases b1
    have hle : i * s ≤ m * s := Nat.mul_le_mul_right _ hi
    refine ⟨by rw [List.length_take, b0]; exact Nat.min_eq_left hle, .inr ⟨g, d, cur, rfl, by omega, b3, b4, ?_, b6⟩⟩
    rw [← b5, List.take_take, Nat.min_eq_left hle]
theorem Ent.slTakeM {q : Option Addr} {m d : Nat} {xs : List Value} (i : Nat) (hi : i ≤ m) (Bs : List Asn) : Ent (slOwn e s (.slice q m d) m xs :: Bs) (slOwn e s (.slice q i i) i (xs.take (i * s)) :: Bs) := fun L h => by
  obtain ⟨L1, L2, a1, a2, a3⟩ := h
  refine ⟨L1, L2, a1, ?_, a3⟩
  obtain ⟨b0, b | ⟨g, cap, cur, b1, b2, b3, b4, b5, b6⟩⟩ := a2
  · obtain ⟨b1, b2, b3⟩ := b
    cases b1
    have hi0 : i = 0 := by omega
    subst hi0
    exact ⟨by simp, .inl ⟨rfl, rfl, b3⟩⟩
  · cases b1
    have hle : i * s ≤ m * s := Nat.mul_le_mul_right _ hi
    refine ⟨by rw [List.length_take, b0]; exact Nat.min_eq_left hle, .inr ⟨g, i, cur, rfl, Nat.le_refl _, by omega, Nat.le_trans (Nat.mul_le_mul_right _ (by omega)) b4, ?_, b6⟩⟩
    rw [← b5, List.take_take, Nat.min_eq_left hle]
/-- One element is stored. -/
theorem os_store_own {g i m d : Nat} {xs : List Value} (hp : As.Perm (slOwn e 1 (.slice (some ⟨g, 0, none⟩) m d) m xs :: Bs)) (hs : SZ P t 1) (hx : ev n f x = .pointer (some ⟨g, i, none⟩)) (hy : ev n f y = v) (hv : v.oneCell' = true) (hi : i < m) :
    OS P (.store t x y) ty n f w0 As (Is undef (slOwn e 1 (.slice (some ⟨g, 0, none⟩) m d) m (xs.set i v) :: Bs)) := fun w hw o' ho hty K Q hK => by
  obtain ⟨L, a1, L1, L2, a3, a4, a5⟩ := hw.perm hp
  obtain ⟨b0, b | ⟨g', cap, cur, b1, b2, b3, b4, b5, b6⟩⟩ := a4
  · cases b.1
  · cases b1
    have hbl : Heap w0 w (cb g e cur :: Bs) := ⟨L, a1, L1, L2, a3, b6, a5⟩
    refine os_store1 (P := P) (ty := ty) (w0 := w0) (List.Perm.refl _) hs hx hy hv (by omega) w hbl o' ho hty K Q fun v' As' w' hr hw' => ?_
    obtain ⟨rfl, rfl⟩ := hr
    refine hK _ _ w' ⟨rfl, rfl⟩ ((Ent.slMk b2 b3 (by rw [List.length_set]; exact b4) ?_ Bs).heap hw')
    rw [← b5, ← List.take_set]
end
theorem RowsR.own {e s m d : Nat} {q : Option Addr} (rows : List (List Value)) (hs : ∀ r ∈ rows, r.length = s) (hm : rows.length = m) (h1 : m ≤ d) (h2 : d ≤ maxLen) (hq : m ≠ 0 → ∃ g, q = some ⟨g, 0, none⟩) :
    RowsR (slOwn e s (.slice q m d) m rows.flatten) (.slice q m d) s rows := by
  subst hm
  refine ⟨q, d, rfl, h1, h2, hs, fun hne => ?_, fun i hi b o hp As Bs hperm => ?_⟩
  · obtain ⟨g, hg⟩ := hq (fun h => hne (List.eq_nil_of_length_eq_zero h))
    exact ⟨g, 0, hg⟩
  · subst hp
    intro hne
    refine ⟨_, rfl, fun w0 w hw j u hj => ?_⟩
    obtain ⟨L, a1, L1, L2, a3, a4, a5⟩ := hw.perm hperm
    rcases a4.2 with ⟨b1, _⟩ | ⟨g', cap, cur, b1, b2, b3, b4, b5, b6⟩
    · cases b1
    · cases b1
      have hgg : w.heap[b]? = some (.cells cur.toArray e (0, 0)) := a1.mem (b, _) (a3.mem_iff.2 (List.mem_append_left _ (by rw [b6]; exact List.mem_singleton.2 rfl)))
      have hsrc : Src [SL.cb b e cur] (some ⟨b, 0 + i * s, none⟩) rows[i] := (RowsR.cb (t := e) (cs := cur) (cap := d) b5 hs rfl h1 h2).src hi (pk_head _ _)
      obtain ⟨a, ha, hc⟩ := hsrc hne
      cases ha
      have hw2 : Heap w0 w [SL.cb b e cur] := ⟨[(b, .cells cur.toArray e (0, 0))], ⟨a1.os, a1.tape, a1.output, a1.size, by simp, fun p hp => by
        have : p = (b, .cells cur.toArray e (0, 0)) := by simpa using hp
        subst this; exact hgg⟩, [(b, .cells cur.toArray e (0, 0))], [], by simp, rfl, trivial⟩
      exact hc w0 w hw2 j u hj
/-! ## many parts as one -/
def AllP (Bs : List Asn) : Asn := fun L => sat Bs L
theorem Ent.all (Bs F : List Asn) : Ent (Bs ++ F) (AllP Bs :: F) := Ent.fold (fun _ h => h)
theorem Ent.unall (Bs F : List Asn) : Ent (AllP Bs :: F) (Bs ++ F) := fun L s => by
  obtain ⟨L1, L2, h1, h2, h3⟩ := s
  exact sat_mk h1 h2 h3
theorem Ent.allNil (F : List Asn) : Ent F (AllP [] :: F) := by have := Ent.all [] F; rwa [List.nil_append] at this
theorem Ent.allCons (A : Asn) (Bs F : List Asn) : Ent (A :: AllP Bs :: F) (AllP (A :: Bs) :: F) := by
  have h1 : Ent (A :: AllP Bs :: F) (AllP Bs :: A :: F) := Ent.perm (List.Perm.swap _ _ _)
  have h2 : Ent (Bs ++ A :: F) (A :: Bs ++ F) := Ent.perm List.perm_middle
  exact (h1.trans (Ent.unall Bs (A :: F))).trans (h2.trans (Ent.all (A :: Bs) F))
/-- One of many is taken out. -/
theorem Ent.allOut (A : Asn) (Bs Cs F : List Asn) : Ent (AllP (Bs ++ A :: Cs) :: F) (A :: AllP (Bs ++ Cs) :: F) := by
  have h2 : Ent (Bs ++ A :: Cs ++ F) (A :: (Bs ++ Cs ++ F)) := Ent.perm (by rw [List.append_assoc, List.append_assoc]; exact List.perm_middle)
  exact ((Ent.unall _ F).trans h2).trans (Ent.cons (List.Perm.refl _) (Ent.all (Bs ++ Cs) F))
theorem Ent.allIn (A : Asn) (Bs Cs F : List Asn) : Ent (A :: AllP (Bs ++ Cs) :: F) (AllP (Bs ++ A :: Cs) :: F) :=
  (Ent.allCons A (Bs ++ Cs) F).trans (Ent.cons (A := AllP (Bs ++ A :: Cs)) (As := AllP (A :: (Bs ++ Cs)) :: F) (Bs := F) (by
    have : AllP (A :: (Bs ++ Cs)) = AllP (Bs ++ A :: Cs) := funext fun L => propext ⟨sat_permAs List.perm_middle.symm, sat_permAs List.perm_middle⟩
    rw [this]) (Ent.refl _))
theorem Ent.allTwo (Bs Cs F : List Asn) : Ent (AllP (Bs ++ Cs) :: F) (AllP Bs :: AllP Cs :: F) :=
  (Ent.unall _ F).trans (by
    rw [List.append_assoc]
    exact (Ent.all Bs (Cs ++ F)).trans (Ent.cons (List.Perm.refl _) (Ent.all Cs F)))
theorem map_mid {α β : Type} (f : α → β) (ts : List α) (i : Nat) (hi : i < ts.length) : ts.map f = (ts.take i).map f ++ f ts[i] :: (ts.drop (i + 1)).map f :=
  (congrArg (List.map f) (show ts = ts.take i ++ ts[i] :: ts.drop (i + 1) by rw [List.getElem_cons_drop, List.take_append_drop])).trans (by rw [List.map_append, List.map_cons])
theorem Ent.allOutM {α : Type} (f : α → Asn) (ts : List α) (i : Nat) (hi : i < ts.length) (F : List Asn) : Ent (AllP (ts.map f) :: F) (f ts[i] :: AllP ((ts.take i ++ ts.drop (i + 1)).map f) :: F) := by
  rw [map_mid f ts i hi, List.map_append]; exact Ent.allOut _ _ _ _
theorem Ent.allInM {α : Type} (f : α → Asn) (ts : List α) (i : Nat) (hi : i < ts.length) (F : List Asn) : Ent (f ts[i] :: AllP ((ts.take i ++ ts.drop (i + 1)).map f) :: F) (AllP (ts.map f) :: F) := by
  rw [map_mid f ts i hi, List.map_append]; exact Ent.allIn _ _ _ _
/-- A part with what it holds for sure. -/
theorem J.fact {w0 : World} {A : Asn} {As Bs : List Asn} {G : World → Prop} {p : Prop} (hp : As.Perm (A :: Bs)) (hA : ∀ L, A L → p) (k : p → J w0 As G) : J w0 As G := J.mk fun w hw => by
  obtain ⟨L, a1, L1, L2, a3, a4, a5⟩ := hw.perm hp
  exact (k (hA _ a4)).run w hw
end Go.SL
