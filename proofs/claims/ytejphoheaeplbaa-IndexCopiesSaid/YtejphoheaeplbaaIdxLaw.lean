/- What the arguments of the index's laws are. -/
import Derived.Test.YtejphoheaeplbaaIdxCopy
import Derived.SizedLaws
namespace Go.Proofs.Ytejphoheaeplbaa
set_option linter.unusedVariables false
set_option linter.unusedSimpArgs false
open Go Go.SL

def NumsR (A : Asn) (v : Value) (l : List Nat) : Prop := RowsR A v 2 (l.map nc) ∧ ∀ x ∈ l, x < M128
section
variable {H : Type} {enc : TypeId × Value → H} {W : World} {base : Nat} {held : Bool} {fuel : Nat}
theorem open_u64 {m : Nat} {t : TypeId} {v : Value} {y : DataW H × List MemPlace} (ht : Try.prog.underlying t = some (.int .u64)) (h : DataW.trod enc Try.prog W base (fun _ => true) held m t [v] = some y) : ∃ n : Nat, v = .int .u64 (n : Int) ∧ n < 18446744073709551616 := by
  obtain ⟨n, h1, _, h2⟩ := DataW.trod_int ht h
  have h3 := bounds_u64' h2
  simp only [List.cons.injEq, and_true] at h1
  obtain ⟨k, rfl⟩ := Int.eq_ofNat_of_zero_le h3.1
  exact ⟨k, h1, by omega⟩
theorem open_apiNum {cs : List Value} {x : DataW H × List MemPlace} (h : DataW.trod enc Try.prog W base (fun _ => true) held fuel 29 cs = some x) : ∃ v, cs = nc v ∧ v < M128 := by
  have hl : cs.length = 2 := (trod_len T.ag29 h).trans T.co29
  obtain ⟨v0, v1, rfl⟩ : ∃ v0 v1, cs = [v0, v1] := by
    match cs, hl with
    | [a, b], _ => exact ⟨a, b, rfl⟩
  obtain ⟨_, _, h0⟩ := trod_field T.ft29_0 T.co27 h
  obtain ⟨_, _, h1⟩ := trod_field T.ft29_1 T.co27 h
  obtain ⟨a, rfl, ha⟩ := open_u64 T.un27 h0
  obtain ⟨b, rfl, hb⟩ := open_u64 T.un27 h1
  exact ⟨a * 18446744073709551616 + b, (nc_of a b hb).symm, by have := M128_eq; omega⟩
theorem rows_of {α : Type} {A : Asn} {v : Value} {s : Nat} {rows : List (List Value)} (g : α → List Value) (Q : α → Prop) (hr : RowsR A v s rows) (h : ∀ r ∈ rows, ∃ c, r = g c ∧ Q c) : ∃ l : List α, RowsR A v s (l.map g) ∧ ∀ c ∈ l, Q c := by
  have key : ∀ rows : List (List Value), (∀ r ∈ rows, ∃ c, r = g c ∧ Q c) → ∃ l : List α, rows = l.map g ∧ ∀ c ∈ l, Q c := by
    intro rows
    induction rows with
    | nil => exact fun _ => ⟨[], rfl, by simp⟩
    | cons r rows ih =>
      intro h
      obtain ⟨c, rfl, hc⟩ := h r (by simp)
      obtain ⟨l, rfl, hl⟩ := ih fun q hq => h q (by simp [hq])
      exact ⟨c :: l, rfl, by simpa using ⟨hc, hl⟩⟩
  obtain ⟨l, rfl, hl⟩ := key rows h
  exact ⟨l, hr, hl⟩
theorem open_SlapiNum {v : Value} {x : DataW H × List MemPlace} (h : DataW.trod enc Try.prog W base (fun _ => true) held fuel 22 [v] = some x) : ∃ l, NumsR (bag (blks W)) v l := by
  obtain ⟨rows, hr, hq⟩ := open_rows (by decide) T.un22 T.co29 h
  exact rows_of nc _ hr fun r hrm => by
    obtain ⟨m, y, hy⟩ := hq r hrm
    exact open_apiNum hy
def is64 (n : Int) : Prop := -9223372036854775808 ≤ n ∧ n < 9223372036854775808
/-- The cells of a call: its key, its number. -/
def ccl (c : En) : List Value := nc c.1 ++ [.int .i64 c.2]
def CallsR (A : Asn) (v : Value) (l : List En) : Prop := RowsR A v 3 (l.map ccl) ∧ ∀ c ∈ l, c.1 < M128 ∧ is64 c.2
theorem open_call {r : List Value} {m : Nat} {y : DataW H × List MemPlace} (h : DataW.trod enc Try.prog W base (fun _ => true) held m 37 r = some y) (hl : r.length = 3) :
    ∃ c : En, r = ccl c ∧ c.1 < M128 ∧ is64 c.2 := by
  obtain ⟨v0, v1, v2, rfl⟩ : ∃ v0 v1 v2, r = [v0, v1, v2] := by
    match r, hl with
    | [a, b, c], _ => exact ⟨a, b, c, rfl⟩
  obtain ⟨_, _, h0⟩ := trod_field T.ft37_0 T.co29 h
  obtain ⟨_, _, h1⟩ := trod_field T.ft37_1 T.co3 h
  obtain ⟨a, ha, ham⟩ := open_apiNum h0
  obtain ⟨n, h1a, _, h1b⟩ := DataW.trod_int T.un3 h1
  have h1c := bounds_i64' h1b
  have h1d : v2 = .int .i64 n := by simpa using h1a
  subst h1d
  have h0' : [v0, v1] = nc a := ha
  refine ⟨(a, n), ?_, ham, h1c⟩
  show [v0, v1] ++ [Value.int .i64 n] = _
  rw [h0']; rfl
theorem open_Slpaciolilaw08Call {v : Value} {x : DataW H × List MemPlace} (h : DataW.trod enc Try.prog W base (fun _ => true) held fuel 34 [v] = some x) : ∃ l, CallsR (bag (blks W)) v l := by
  obtain ⟨rows, hr, hq⟩ := open_rows (by decide) T.un34 T.co37 h
  exact rows_of ccl (fun c => c.1 < M128 ∧ is64 c.2) hr fun r hrm => by
    obtain ⟨m, y, hy⟩ := hq r hrm
    obtain ⟨c, h1, h2⟩ := open_call hy (hr.choose_spec.choose_spec.2.2.2.1 r hrm)
    exact ⟨c, h1, h2⟩
theorem CallsR.len {A : Asn} {v : Value} {l : List En} (h : CallsR A v l) : ∃ p cap, v = .slice p l.length cap ∧ l.length ≤ cap ∧ cap ≤ maxLen ∧ (l ≠ [] → ∃ b o, p = some ⟨b, o, none⟩) := by
  obtain ⟨⟨p, cap, h1, h2, h3, _, h5, _⟩, _⟩ := h
  rw [List.length_map] at h1 h2
  exact ⟨p, cap, h1, h2, h3, fun hne => h5 (by simpa using hne)⟩
theorem CallsR.src {A : Asn} {b o n cap : Nat} {l : List En} (h : CallsR A (.slice (some ⟨b, o, none⟩) n cap) l) {i : Nat} (hi : i < l.length) {As Bs : List Asn} (hp : As.Perm (A :: Bs)) :
    Src As (some ⟨b, o + i * 3, none⟩) (ccl l[i]) := by
  obtain ⟨⟨p, cap, h1, h2, h3, _, h5, h6⟩, _⟩ := h
  cases h1
  have := h6 i (by simpa using hi) b o rfl As Bs hp
  simpa using this
theorem ccl_one (c : En) : ∀ u ∈ ccl c, u.oneCell' = true := one_app (nc_one _) (by simp [Value.oneCell'])
theorem ccl_len (c : En) : (ccl c).length = 3 := rfl
end
/-- What is handed in is not more than a machine can bear. -/
theorem sized_calls {H : Type} {enc : TypeId × Value → H} {W : World} {held : Bool} {ts : List TypeId} {ds : List (DataW H)} {j t e m : Nat} {d : DataW H} {p : List MemPlace} {v : Value} {A : Asn} {l : List En}
    (h : (DataW.weightsEach Try.prog ts ds).all (· ≤ reachBytes) = true) (ht : ts[j]? = some t) (hd : ds[j]? = some d) (hu : Try.prog.underlying t = some (.slice e)) (hbo : 1 ≤ Try.prog.bytesOf e)
    (hx : DataW.trod enc Try.prog W 0 (fun _ => true) held m t [v] = some (d, p)) (hb : CallsR A v l) : l.length ≤ 140737488351232 := by
  obtain ⟨q, cap, rfl, hc, _⟩ := hb.len
  rcases DataW.trod_slice hu hx with ⟨h1, h2⟩ | ⟨a, len, cap', elems, rest, m', _, h1, h2, _, _, _, hel, _⟩
  · simp only [List.cons.injEq, and_true, Value.slice.injEq] at h1
    omega
  · simp only [List.cons.injEq, and_true, Value.slice.injEq] at h1
    simp only [Prod.mk.injEq] at h2
    have := sized_slice h ht (hd.trans (congrArg some h2.1)) hu
    rw [List.length_map, List.length_map] at this
    have er : reachBytes = 140737488351232 := by decide
    have h3 : elems.length ≤ (elems.length + rest.length) * Try.prog.bytesOf e := Nat.le_trans (Nat.le_add_right _ _) (Nat.le_mul_of_pos_right _ hbo)
    omega
/-- All rows, one behind the other. -/
theorem RowsR.flat {A : Asn} {b o n cap s : Nat} {rows : List (List Value)} (h : RowsR A (.slice (some ⟨b, o, none⟩) n cap) s rows) (hs : 0 < s) {As Bs : List Asn} (hp : As.Perm (A :: Bs)) : Src As (some ⟨b, o, none⟩) rows.flatten := by
  intro hne
  refine ⟨_, rfl, fun w0 w hw j u hj => ?_⟩
  have hl := h.choose_spec.choose_spec.2.2.2.1
  have key : ∀ (rows : List (List Value)), (∀ r ∈ rows, r.length = s) → ∀ j u, rows.flatten[j]? = some u → ∃ hi : j / s < rows.length, rows[j / s][j % s]? = some u := by
    intro rows
    induction rows with
    | nil => intro _ j u hj; simp at hj
    | cons r rows ih =>
      intro hl j u hj
      have hr := hl r (by simp)
      rw [List.flatten_cons, List.getElem?_append] at hj
      split at hj
      · rename_i hlt
        have h0 : j / s = 0 := Nat.div_eq_of_lt (by omega)
        refine ⟨by rw [h0]; simp, ?_⟩
        simp only [h0, List.getElem_cons_zero]
        rw [Nat.mod_eq_of_lt (by omega)]; exact hj
      · rename_i hge
        obtain ⟨hi, h2⟩ := ih (fun q hq => hl q (by simp [hq])) _ _ hj
        subst hr
        have h1 : j / r.length = (j - r.length) / r.length + 1 := by rw [← Nat.add_div_right _ hs]; congr 1; omega
        have h3 : j % r.length = (j - r.length) % r.length := by rw [← Nat.add_mod_right (j - r.length) r.length]; congr 1; omega
        refine ⟨by rw [h1, List.length_cons]; omega, ?_⟩
        simp only [h1, List.getElem_cons_succ]
        rw [h3]; exact h2
  obtain ⟨hi, h2⟩ := key rows hl j u hj
  obtain ⟨a, h3, h4⟩ := h.src hi hp (fun h0 => by rw [h0] at h2; simp at h2)
  cases h3
  have := h4 w0 w hw (j % s) u h2
  rw [add_mk] at this ⊢
  rw [show o + j / s * s + j % s = o + j by rw [Nat.add_assoc, Nat.mul_comm, Nat.div_add_mod]] at this
  exact this
/-- An index that these calls filled. -/
def fill (l : List En) (c : List En) : List En := c.foldl (fun l e => ins e.1 e.2 l) l
theorem fill_good {l c : List En} (h : Good l) (hc : ∀ e ∈ c, e.1 < M128) : Good (fill l c) := by
  induction c generalizing l with
  | nil => exact h
  | cons e c ih => exact ih (h.ins (hc e (by simp)) _) fun x hx => hc x (by simp [hx])
theorem fill_succ (l c : List En) (i : Nat) (hi : i < c.length) : fill l (c.take (i + 1)) = ins c[i].1 c[i].2 (fill l (c.take i)) := by
  rw [List.take_succ_eq_append_getElem hi, fill, List.foldl_append]; rfl
theorem ins_len_le (k : Nat) (v : Int) {l : List En} (h : Srt l) : (ins k v l).length ≤ l.length + 1 := by
  rw [len_ins k v h]; cases (lkp k l).isNone <;> simp
theorem fill_len {l c : List En} (h : Good l) (hc : ∀ e ∈ c, e.1 < M128) : (fill l c).length ≤ l.length + c.length := by
  induction c generalizing l with
  | nil => exact Nat.le_refl _
  | cons e c ih =>
    have h1 := ih (h.ins (hc e (by simp)) e.2) fun x hx => hc x (by simp [hx])
    have h2 := ins_len_le e.1 e.2 h.srt
    show (fill (ins e.1 e.2 l) c).length ≤ _
    rw [List.length_cons]; omega
end Go.Proofs.Ytejphoheaeplbaa
