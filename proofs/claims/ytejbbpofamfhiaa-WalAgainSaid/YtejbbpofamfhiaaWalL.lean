/- Plain law of the log: what writes leave, what a crash keeps of them, what is read back. -/
import Derived.Test.YtejbbpofamfhiaaWalP
namespace Go.Proofs.Ytejbbpofamfhiaa
set_option linter.unusedVariables false
set_option linter.unusedSimpArgs false
open Go Go.SL

def pw64 (w : Nat × List UInt8) : Nat × List UInt8 := (w.1, pad 64 w.2)
/-- How many of so many writes a disk takes. -/
def takes (st : DS) (n : Nat) : Nat := if st.armed then min n st.left.toNat else n
def after (st : DS) (l : List (Nat × List UInt8)) : DS := { st with wait := st.wait ++ (l.take (takes st l.length)).map pw64, count := st.count + (takes st l.length : Nat), left := if st.armed then st.left - (takes st l.length : Nat) else st.left }
theorem write_is (st : DS) (a : Nat) (bs : List UInt8) (h1 : a < st.data.length) (h2 : bs.length ≤ 64) : st.write a bs = if st.down then (4, st) else (0, { st with wait := st.wait ++ [(a, pad 64 bs)], count := st.count + 1, left := if st.armed then st.left - 1 else st.left }) := by
  unfold DS.write
  rw [if_neg (by omega)]
  simp
theorem writes_is : ∀ (l : List (Nat × List UInt8)) (st : DS), 0 ≤ st.left → (∀ w ∈ l, w.1 < st.data.length ∧ w.2.length ≤ 64) → writes l st = (if takes st l.length < l.length then 4 else 0, after st l)
  | [], st, _, _ => by
    have : takes st 0 = 0 := by unfold takes; split <;> omega
    simp [writes, after, this]
  | w :: l, st, hl, h => by
    obtain ⟨a, bs⟩ := w
    obtain ⟨h1, h2⟩ := h (a, bs) (by simp)
    simp only [writes]
    rw [write_is st a bs h1 h2]
    obtain ⟨data, wait, armed, left, count⟩ := st
    dsimp only at hl h1
    cases armed with
    | false =>
      have hd : DS.down ⟨data, wait, false, left, count⟩ = false := rfl
      rw [hd]
      simp only [Bool.false_eq_true, if_false, if_true]
      rw [writes_is l ⟨data, wait ++ [(a, pad 64 bs)], false, left, count + 1⟩ hl (fun w hw => h w (by simp [hw]))]
      simp [takes, after, pw64]
      omega
    | true =>
      by_cases h0 : left = 0
      · have hd : DS.down ⟨data, wait, true, left, count⟩ = true := by simp [DS.down, h0]
        rw [hd]
        simp [takes, after, h0]
      · have hd : DS.down ⟨data, wait, true, left, count⟩ = false := by simp [DS.down, h0]
        rw [hd]
        simp only [Bool.false_eq_true, if_false, if_true]
        rw [writes_is l ⟨data, wait ++ [(a, pad 64 bs)], true, left - 1, count + 1⟩ (by dsimp only; omega) (fun w hw => h w (by simp [hw]))]
        have e1 : min (l.length + 1) left.toNat = min l.length (left - 1).toNat + 1 := by omega
        simp only [takes, after, if_true, List.length_cons, e1, List.take_succ_cons, List.map_cons, pw64, Prod.mk.injEq, DS.mk.injEq, List.append_assoc, List.singleton_append, true_and, and_true]
        refine ⟨by simp only [Nat.add_lt_add_iff_right], ?_, ?_⟩ <;> omega
theorem after_data (st : DS) (l : List (Nat × List UInt8)) : (after st l).data = st.data := rfl
theorem after_free {st : DS} (h : st.armed = false) (l : List (Nat × List UInt8)) : takes st l.length = l.length ∧ (after st l).down = false ∧ (after st l).armed = false := by
  refine ⟨by simp [takes, h], ?_, ?_⟩ <;> simp [DS.down, after, h]
/-! ## what a place holds then -/
theorem getD_set {d : List (List UInt8)} {a b : Nat} {x : List UInt8} : (d.set a x).getD b [] = if a = b ∧ a < d.length then x else d.getD b [] := by
  rw [List.getD_eq_getElem?_getD, List.getD_eq_getElem?_getD, List.getElem?_set]
  by_cases h : a = b
  · subst h
    by_cases h2 : a < d.length
    · simp [h2]
    · simp [h2]
  · simp [h]
theorem putW_out : ∀ (l : List (Nat × List UInt8)) (d : List (List UInt8)) (a : Nat), (∀ w ∈ l, w.1 ≠ a) → (l.foldl putW d).getD a [] = d.getD a []
  | [], _, _, _ => rfl
  | w :: l, d, a, h => by
    rw [List.foldl_cons, putW_out l _ a fun x hx => h x (by simp [hx]), putW, getD_set, if_neg (fun hh => h w (by simp) hh.1)]
theorem putW_in : ∀ (l : List (Nat × List UInt8)) (d : List (List UInt8)) (w : Nat × List UInt8), (l.map (·.1)).Nodup → w ∈ l → w.1 < d.length → (l.foldl putW d).getD w.1 [] = w.2
  | [], _, _, _, h, _ => by cases h
  | u :: l, d, w, hn, h, hlt => by
    obtain ⟨h1, h2⟩ := List.nodup_cons.1 (by simpa using hn : (u.1 :: l.map (·.1)).Nodup)
    rw [List.foldl_cons]
    rcases List.mem_cons.1 h with rfl | h
    · rw [putW_out l _ w.1 fun x hx e => h1 (List.mem_map.2 ⟨x, hx, e⟩), putW, getD_set, if_pos ⟨rfl, hlt⟩]
    · exact putW_in l _ w h2 h (by simpa [putW] using hlt)
theorem crashF_out {mask : Nat} {torn cut : Int} : ∀ (l : List ((Nat × List UInt8) × Nat)) (d : List (List UInt8)) (a : Nat), (∀ x ∈ l, x.1.1 ≠ a) → (l.foldl (crash1 mask torn cut) d).getD a [] = d.getD a []
  | [], _, _, _ => rfl
  | x :: l, d, a, h => by
    rw [List.foldl_cons, crashF_out l _ a fun y hy => h y (by simp [hy]), crash1]
    split
    · rfl
    · rw [getD_set, if_neg (fun hh => h x (by simp) hh.1)]
theorem crash1_len {mask : Nat} {torn cut : Int} (d : List (List UInt8)) (x : (Nat × List UInt8) × Nat) : (crash1 mask torn cut d x).length = d.length := by
  unfold crash1; split <;> simp
theorem crashF_in {mask : Nat} {torn cut : Int} : ∀ (l : List ((Nat × List UInt8) × Nat)) (d : List (List UInt8)) (x : (Nat × List UInt8) × Nat), (l.map (·.1.1)).Nodup → x ∈ l → x.1.1 < d.length →
    (l.foldl (crash1 mask torn cut) d).getD x.1.1 [] = if mask / 2 ^ (x.2 % 64) % 2 = 0 then d.getD x.1.1 [] else x.1.2.take (cutLen torn cut x.2) ++ (d.getD x.1.1 []).drop (cutLen torn cut x.2)
  | [], _, _, _, h, _ => by cases h
  | u :: l, d, x, hn, h, hlt => by
    obtain ⟨h1, h2⟩ := List.nodup_cons.1 (by simpa using hn : (u.1.1 :: l.map (·.1.1)).Nodup)
    rw [List.foldl_cons]
    rcases List.mem_cons.1 h with rfl | h
    · rw [crashF_out l _ x.1.1 fun y hy e => h1 (List.mem_map.2 ⟨y, hy, e⟩)]
      unfold crash1
      split
      · rfl
      · rw [getD_set, if_pos ⟨rfl, hlt⟩]
    · have hne : u.1.1 ≠ x.1.1 := fun e => h1 (List.mem_map.2 ⟨x, h, e.symm⟩)
      have hg : (crash1 mask torn cut d u).getD x.1.1 [] = d.getD x.1.1 [] := by
        unfold crash1
        split
        · rfl
        · rw [getD_set, if_neg (fun hh => hne hh.1)]
      rw [crashF_in l _ x h2 h (by rw [crash1_len]; exact hlt), hg]
theorem zipIdx_fst {α : Type} (l : List α) (k : Nat) : (l.zipIdx k).map (·.1) = l := by simp
theorem crash_out {mask : Nat} {torn cut : Int} {l : List (Nat × List UInt8)} {d : List (List UInt8)} {a : Nat} (h : ∀ w ∈ l, w.1 ≠ a) : (crashTo mask torn cut l d).getD a [] = d.getD a [] :=
  crashF_out _ _ _ fun x hx => h x.1 (List.fst_mem_of_mem_zipIdx hx)
theorem crash_in {mask : Nat} {torn cut : Int} {l : List (Nat × List UInt8)} {d : List (List UInt8)} (hn : (l.map (·.1)).Nodup) (i : Nat) (hi : i < l.length) (hlt : l[i].1 < d.length) :
    (crashTo mask torn cut l d).getD l[i].1 [] = if mask / 2 ^ (i % 64) % 2 = 0 then d.getD l[i].1 [] else l[i].2.take (cutLen torn cut i) ++ (d.getD l[i].1 []).drop (cutLen torn cut i) := by
  have := crashF_in (mask := mask) (torn := torn) (cut := cut) l.zipIdx d (l[i], i) (by
    have : l.zipIdx.map (·.1.1) = (l.zipIdx.map (·.1)).map (·.1) := by rw [List.map_map]; rfl
    rw [this, zipIdx_fst]; exact hn) (by rw [List.mem_zipIdx_iff_getElem?]; simp [List.getElem?_eq_getElem hi]) hlt
  exact this
theorem crashTo_len {mask : Nat} {torn cut : Int} (l : List (Nat × List UInt8)) (d : List (List UInt8)) : (crashTo mask torn cut l d).length = d.length := by
  have : ∀ (l : List ((Nat × List UInt8) × Nat)) (d : List (List UInt8)), (l.foldl (crash1 mask torn cut) d).length = d.length := by
    intro l
    induction l with
    | nil => exact fun _ => rfl
    | cons x l ih => intro d; rw [List.foldl_cons, ih, crash1_len]
  exact this _ _
/-- Two disks' sectors that are the same at each place. -/
theorem ext_getD {d e : List (List UInt8)} (hl : d.length = e.length) (h : ∀ a, a < d.length → d.getD a [] = e.getD a []) : d = e := by
  apply List.ext_getElem hl
  intro i h1 h2
  have := h i h1
  rwa [List.getD_eq_getElem?_getD, List.getD_eq_getElem?_getD, List.getElem?_eq_getElem h1, List.getElem?_eq_getElem h2] at this
/-! ## what is wiped -/
theorem wipesF_mem {V : List (List UInt8)} : ∀ (m a : Nat) (w : Nat × List UInt8), w ∈ wipesF V m a → a ≤ w.1 ∧ w.1 < a + m ∧ w.2 = [] ∧ V.getD w.1 [] ≠ Z64
  | 0, _, _, h => by cases h
  | m + 1, a, w, h => by
    simp only [wipesF] at h
    split at h
    · obtain ⟨h1, h2, h3⟩ := wipesF_mem m (a + 1) w h
      exact ⟨by omega, by omega, h3⟩
    · rename_i hz
      rcases List.mem_cons.1 h with rfl | h
      · exact ⟨Nat.le_refl _, by dsimp only; omega, rfl, hz⟩
      · obtain ⟨h1, h2, h3⟩ := wipesF_mem m (a + 1) w h
        exact ⟨by omega, by omega, h3⟩
theorem wipesF_nodup {V : List (List UInt8)} : ∀ (m a : Nat), ((wipesF V m a).map (·.1)).Nodup
  | 0, _ => by simp [wipesF]
  | m + 1, a => by
    simp only [wipesF]
    split
    · exact wipesF_nodup m (a + 1)
    · refine List.nodup_cons.2 ⟨fun h => ?_, wipesF_nodup m (a + 1)⟩
      obtain ⟨w, hw, e⟩ := List.mem_map.1 h
      have := (wipesF_mem m (a + 1) w hw).1
      dsimp only at e; omega
theorem wipesF_all {V : List (List UInt8)} : ∀ (m a b : Nat), a ≤ b → b < a + m → V.getD b [] ≠ Z64 → (b, []) ∈ wipesF V m a
  | 0, _, _, h1, h2, _ => by omega
  | m + 1, a, b, h1, h2, hz => by
    simp only [wipesF]
    by_cases hb : a = b
    · subst hb; rw [if_neg hz]; simp
    · have := wipesF_all m (a + 1) b (by omega) (by omega) hz
      split
      · exact this
      · exact List.mem_cons_of_mem _ this
theorem pw64_fst (l : List (Nat × List UInt8)) : (l.map pw64).map (·.1) = l.map (·.1) := by rw [List.map_map]; rfl
/-- All that is wiped is zeros then. -/
theorem wiped_data {V : List (List UInt8)} {E : Nat} (hE : E ≤ V.length) : ((wipes V E).map pw64).foldl putW V = V.take E ++ List.replicate (V.length - E) Z64 := by
  have hn : (((wipes V E).map pw64).map (·.1)).Nodup := by rw [pw64_fst]; exact wipesF_nodup _ _
  refine ext_getD (by rw [putW_len, List.length_append, List.length_take, List.length_replicate]; omega) fun a ha => ?_
  rw [putW_len] at ha
  have hR : (V.take E ++ List.replicate (V.length - E) Z64).getD a [] = if a < E then V.getD a [] else Z64 := by
    rw [List.getD_eq_getElem?_getD, List.getElem?_append, List.length_take, Nat.min_eq_left hE]
    split
    · rw [List.getElem?_take, if_pos (by assumption), List.getD_eq_getElem?_getD]
    · rw [List.getElem?_replicate, if_pos (by omega)]; rfl
  rw [hR]
  by_cases h1 : a < E
  · rw [if_pos h1, putW_out]
    intro w hw e
    obtain ⟨u, hu, rfl⟩ := List.mem_map.1 hw
    have := (wipesF_mem _ _ u hu).1
    have e' : u.1 = a := e
    omega
  · rw [if_neg h1]
    by_cases hz : V.getD a [] = Z64
    · rw [putW_out, hz]
      intro w hw e
      obtain ⟨u, hu, rfl⟩ := List.mem_map.1 hw
      have := (wipesF_mem _ _ u hu).2.2.2
      have e' : u.1 = a := e
      rw [e'] at this
      exact this hz
    · have hm : (a, pad 64 []) ∈ (wipes V E).map pw64 := List.mem_map.2 ⟨(a, []), wipesF_all _ _ _ (by omega) (by omega) hz, rfl⟩
      have := putW_in _ V _ hn hm ha
      exact this
end Go.Proofs.Ytejbbpofamfhiaa
