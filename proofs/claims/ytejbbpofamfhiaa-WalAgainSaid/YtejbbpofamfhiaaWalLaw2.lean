/- The log's laws: lists of bytes as arguments, what an opened log answers, entry by entry. -/
import Derived.Test.YtejbbpofamfhiaaWalLaw
namespace Go.Proofs.Ytejbbpofamfhiaa
set_option linter.unusedVariables false
set_option linter.unusedSimpArgs false
open Go Go.SL

theorem Src.all {Bs : List Asn} {B : Asn} (hm : B ∈ Bs) {p : Option Addr} {vs : List Value} (h : ∀ As Cs, List.Perm As (B :: Cs) → Src As p vs) {As Cs : List Asn} (hp : List.Perm As (AllP Bs :: Cs)) : Src As p vs := fun hne => by
  obtain ⟨s, t, rfl⟩ := List.append_of_mem hm
  obtain ⟨a, h1, h2⟩ := h ((s ++ B :: t) ++ Cs) _ ((List.perm_middle.append_right Cs)) hne
  exact ⟨a, h1, fun w0 w hw => h2 w0 w ((Ent.unall _ Cs).heap (hw.perm hp))⟩
theorem ByR.all {Bs : List Asn} {B : Asn} (hm : B ∈ Bs) {v : Value} {bs : List UInt8} (h : ByR B v bs) : ByR (AllP Bs) v bs := by
  obtain ⟨p, cap, e, hc, hs⟩ := h
  exact ⟨p, cap, e, hc, fun As Cs hp => Src.all hm hs hp⟩
theorem flat_single : ∀ l : List Value, (l.map fun v => [v]).flatten = l
  | [] => rfl
  | v :: l => by rw [List.map_cons, List.flatten_cons, flat_single l]; rfl
/-- The entries that Open answers, as rows. -/
theorem out_rows {es : List (Value × List UInt8)} {n d : Nat} {q : Option Addr} (hn : es.length = n) (h1 : n ≤ d) (h2 : d ≤ maxLen) (h3 : n ≠ 0 → ∃ g, q = some ⟨g, 0, none⟩) : RowsR (slOwn 27 1 (.slice q n d) n (es.map (·.1))) (.slice q n d) 1 (es.map fun x => [x.1]) := by
  have := RowsR.own (e := 27) (s := 1) (m := n) (d := d) (q := q) ((es.map (·.1)).map fun v => [v]) (fun r hr => by obtain ⟨x, _, rfl⟩ := List.mem_map.1 hr; rfl) (by simpa using hn) h1 h2 h3
  rw [flat_single] at this
  rwa [List.map_map] at this
theorem out_bys {es : WEs} (h : ∀ e ∈ es, ByR (EnA e.1 e.2) e.1 e.2) : ∀ e ∈ es, ByR (AllP (es.map enP)) e.1 e.2 := fun e he => ByR.all (List.mem_map.2 ⟨e, he, rfl⟩) (h e he)
theorem rows_of2 {α : Type} {A : Asn} {v : Value} {s : Nat} {rows : List (List Value)} (g : α → List Value) (Q : α → Prop) (hr : RowsR A v s rows) (h : ∀ r ∈ rows, ∃ c, r = g c ∧ Q c) : ∃ l : List α, RowsR A v s (l.map g) ∧ ∀ c ∈ l, Q c := by
  have key : ∀ rows : List (List Value), (∀ r ∈ rows, ∃ c, r = g c ∧ Q c) → ∃ l : List α, rows = l.map g ∧ ∀ c ∈ l, Q c := by
    intro rows
    induction rows with
    | nil => exact fun _ => ⟨[], rfl, by simp⟩
    | cons r rows ih =>
      intro h
      obtain ⟨c, rfl, hc⟩ := h r (by simp)
      obtain ⟨l, rfl, hl⟩ := ih fun q hq => h q (by simp [hq])
      exact ⟨c :: l, rfl, by simpa using ⟨hc, hl⟩⟩
  obtain ⟨l, rfl, hl⟩ := key rows h
  exact ⟨l, hr, hl⟩
theorem open_SlSluint8 {H : Type} {enc : TypeId × Value → H} {W : World} {base : Nat} {held : Bool} {fuel : Nat} {v : Value} {x : DataW H × List MemPlace} (h : DataW.trod enc Try.prog W base (fun _ => true) held fuel 48 [v] = some x) :
    ∃ l : List (Value × List UInt8), RowsR (bag (blks W)) v 1 (l.map fun x => [x.1]) ∧ ∀ x ∈ l, ByR (bag (blks W)) x.1 x.2 := by
  obtain ⟨rows, hr, hq⟩ := open_rows (by decide) T.un48 T.co27 h
  exact rows_of2 (fun x : Value × List UInt8 => [x.1]) (fun x => ByR (bag (blks W)) x.1 x.2) hr fun r hrm => by
    obtain ⟨m, y, hy⟩ := hq r hrm
    have hl : r.length = 1 := hr.choose_spec.choose_spec.2.2.2.1 r hrm
    obtain ⟨u, rfl⟩ : ∃ u, r = [u] := by
      match r, hl with
      | [a], _ => exact ⟨a, rfl⟩
    obtain ⟨c, hc, _⟩ := open_bytes T.un27 T.un5 T.co5 hy
    exact ⟨(u, c), rfl, hc⟩
/-- The i-th of some slices of bytes. -/
theorem row_at {A C : Asn} {p : Option Addr} {n cap : Nat} {l : List (Value × List UInt8)} (hr : RowsR A (.slice p n cap) 1 (l.map fun x => [x.1])) (hB : ∀ x ∈ l, ByR C x.1 x.2) (i : Nat) (b : List UInt8) (h : (l.map (·.2))[i]? = some b) :
    ∃ q d g o, p = some ⟨g, o, none⟩ ∧ ByR C (.slice q b.length d) b ∧ ∀ As Bs, List.Perm As (A :: Bs) → Src As (some ⟨g, o + i * 1, none⟩) [.slice q b.length d] := by
  obtain ⟨hi, he⟩ := List.getElem?_eq_some_iff.1 h
  rw [List.length_map] at hi
  rw [List.getElem_map] at he
  have hb := hB l[i] (List.getElem_mem hi)
  obtain ⟨pv, cp, hv, h1, h2, h3⟩ := hr.len
  cases hv
  obtain ⟨g, o, rfl⟩ := h3 (fun h0 => by have := congrArg List.length h0; simp at this; subst this; simp at hi)
  have hs := fun As Bs (hp : List.Perm As (A :: Bs)) => hr.src (i := i) (by rw [List.length_map]; exact hi) hp
  simp only [List.getElem_map] at hs
  rw [he] at hb
  obtain ⟨q, d, hq⟩ := Go.Proofs.Ytejbbpofamfhiaa.ByR.shape hb
  rw [hq] at hb hs
  exact ⟨q, d, g, o, rfl, hb, hs⟩
theorem take_snoc {α : Type} {L : List α} {i : Nat} {b : α} (h : L[i]? = some b) : L.take (i + 1) = L.take i ++ [b] := by
  obtain ⟨hi, rfl⟩ := List.getElem?_eq_some_iff.1 h
  exact List.take_succ_eq_append_getElem hi
theorem get_some {α : Type} {L : List α} {i : Nat} (h : i < L.length) : ∃ b, L[i]? = some b := ⟨_, List.getElem?_eq_getElem h⟩
end Go.Proofs.Ytejbbpofamfhiaa
