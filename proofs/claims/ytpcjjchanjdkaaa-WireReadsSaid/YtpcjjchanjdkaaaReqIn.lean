/- A request as an argument; a request's bytes read again. -/
import Derived.Test.YtpcjjchanjdkaaaSame
namespace Go.Proofs.Ytpcjjchanjdkaaa
set_option linter.unusedVariables false
set_option linter.unusedSimpArgs false
open Go Go.SL

structure ReqIn (A : Asn) (q : RQ) (av tv : Value) (ga : List (AccS × List Value)) (gt : List (TrS × List Value)) : Prop where
  ea : q.accs = ga.map Prod.fst
  et : q.trs = gt.map Prod.fst
  ra : RowsR A av 46 (ga.map fun x => gAcc x.1 x.2)
  rt : RowsR A tv 16 (gt.map fun x => gTr x.1 x.2)
  ka : ∀ x ∈ ga, x.2.length = 42 ∧ ∀ u ∈ x.2, u.oneCell' = true
  kt : ∀ x ∈ gt, x.2.length = 3 ∧ ∀ u ∈ x.2, u.oneCell' = true
  id : q.id < M128
  accs : ∀ a ∈ q.accs, a.id < M128
  trs : ∀ t ∈ q.trs, t.id < M128 ∧ t.deb < M128 ∧ t.cre < M128 ∧ t.amo < M128 ∧ t.pen < M128
section
variable {H : Type} {enc : TypeId × Value → H} {W : World} {base : Nat} {held : Bool} {fuel : Nat}
theorem open_u64 {m : Nat} {t : TypeId} {v : Value} {y : DataW H × List MemPlace} (ht : Try.prog.underlying t = some (.int .u64)) (h : DataW.trod enc Try.prog W base (fun _ => true) held m t [v] = some y) : ∃ n : Nat, v = .int .u64 (n : Int) ∧ n < 18446744073709551616 := by
  obtain ⟨n, h1, _, h2⟩ := DataW.trod_int ht h
  have h3 := bounds_u64' h2
  simp only [List.cons.injEq, and_true] at h1
  obtain ⟨k, rfl⟩ := Int.eq_ofNat_of_zero_le h3.1
  exact ⟨k, h1, by omega⟩
theorem open_apiNum {cs : List Value} {x : DataW H × List MemPlace} (h : DataW.trod enc Try.prog W base (fun _ => true) held fuel 26 cs = some x) : ∃ v, cs = nc v ∧ v < M128 := by
  have hl : cs.length = 2 := (trod_len T.ag26 h).trans T.co26
  obtain ⟨v0, v1, rfl⟩ : ∃ v0 v1, cs = [v0, v1] := by
    match cs, hl with
    | [a, b], _ => exact ⟨a, b, rfl⟩
  obtain ⟨_, _, h0⟩ := trod_field T.ft26_0 T.co24 h
  obtain ⟨_, _, h1⟩ := trod_field T.ft26_1 T.co24 h
  obtain ⟨a, rfl, ha⟩ := open_u64 T.un24 h0
  obtain ⟨b, rfl, hb⟩ := open_u64 T.un24 h1
  exact ⟨a * 18446744073709551616 + b, (nc_of a b hb).symm, by have := M128_eq; omega⟩
theorem open_i64 {m : Nat} {cs : List Value} {y : DataW H × List MemPlace} (h : DataW.trod enc Try.prog W base (fun _ => true) held m 3 cs = some y) : ∃ n : Int, cs = [.int .i64 n] := by
  obtain ⟨n, h1, _, h2⟩ := DataW.trod_int T.un3 h
  exact ⟨n, h1⟩
theorem rows_of {α : Type} {A : Asn} {v : Value} {s : Nat} {rows : List (List Value)} (g : α → List Value) (Q : α → Prop) (hr : RowsR A v s rows) (h : ∀ r ∈ rows, ∃ c, r = g c ∧ Q c) : ∃ l : List α, RowsR A v s (l.map g) ∧ ∀ c ∈ l, Q c := by
  have key : ∀ rows : List (List Value), (∀ r ∈ rows, ∃ c, r = g c ∧ Q c) → ∃ l : List α, rows = l.map g ∧ ∀ c ∈ l, Q c := by
    intro rows
    induction rows with
    | nil => exact fun _ => ⟨[], rfl, by simp⟩
    | cons r rows ih =>
      intro h
      obtain ⟨c, rfl, hc⟩ := h r (by simp)
      obtain ⟨l, rfl, hl⟩ := ih fun q hq => h q (by simp [hq])
      exact ⟨c :: l, rfl, by simpa using ⟨hc, hl⟩⟩
  obtain ⟨l, rfl, hl⟩ := key rows h
  exact ⟨l, hr, hl⟩
theorem cut_list (cs : List Value) (i k : Nat) : cs.drop i = (cs.drop i).take k ++ cs.drop (i + k) := by
  rw [← List.drop_drop, List.take_append_drop]
theorem open_apiAccount {cs : List Value} {x : DataW H × List MemPlace} (h : DataW.trod enc Try.prog W base (fun _ => true) held fuel 59 cs = some x) : ∃ c : AccS × List Value, cs = gAcc c.1 c.2 ∧ (c.2.length = 42 ∧ ∀ u ∈ c.2, u.oneCell' = true) ∧ c.1.id < M128 := by
  have hl : cs.length = 46 := (trod_len T.ag59 h).trans T.co59
  have hk := (T.eq59).kv h
  obtain ⟨_, _, h0⟩ := trod_field T.ft59_0 T.co26 h
  obtain ⟨_, _, h1⟩ := trod_field T.ft59_1 T.co3 h
  obtain ⟨_, _, h2⟩ := trod_field T.ft59_2 T.co3 h
  obtain ⟨a, ea, ha⟩ := open_apiNum h0
  obtain ⟨b, eb⟩ := open_i64 h1
  obtain ⟨c, ec⟩ := open_i64 h2
  have e : cs = (cs.drop 0).take 2 ++ ((cs.drop 2).take 1 ++ ((cs.drop 3).take 1 ++ cs.drop 4)) := by
    rw [← cut_list cs 3 1, ← cut_list cs 2 1, ← cut_list cs 0 2]; rfl
  rw [ea, eb, ec] at e
  refine ⟨(⟨a, b, c⟩, cs.drop 4), by rw [gAcc]; simpa using e, ⟨by simp [hl], fun u hu => hk.one u (List.mem_of_mem_drop hu)⟩, ha⟩
theorem open_apiTransfer {cs : List Value} {x : DataW H × List MemPlace} (h : DataW.trod enc Try.prog W base (fun _ => true) held fuel 71 cs = some x) : ∃ c : TrS × List Value, cs = gTr c.1 c.2 ∧ (c.2.length = 3 ∧ ∀ u ∈ c.2, u.oneCell' = true) ∧ (c.1.id < M128 ∧ c.1.deb < M128 ∧ c.1.cre < M128 ∧ c.1.amo < M128 ∧ c.1.pen < M128) := by
  have hl : cs.length = 16 := (trod_len T.ag71 h).trans T.co71
  have hk := (T.eq71).kv h
  obtain ⟨_, _, h0⟩ := trod_field T.ft71_0 T.co26 h
  obtain ⟨_, _, h1⟩ := trod_field T.ft71_1 T.co26 h
  obtain ⟨_, _, h2⟩ := trod_field T.ft71_2 T.co26 h
  obtain ⟨_, _, h3⟩ := trod_field T.ft71_3 T.co26 h
  obtain ⟨_, _, h4⟩ := trod_field T.ft71_4 T.co26 h
  obtain ⟨_, _, h5⟩ := trod_field T.ft71_5 T.co3 h
  obtain ⟨_, _, h6⟩ := trod_field T.ft71_6 T.co3 h
  obtain ⟨_, _, h7⟩ := trod_field T.ft71_7 T.co3 h
  obtain ⟨a0, e0, l0⟩ := open_apiNum h0
  obtain ⟨a1, e1, l1⟩ := open_apiNum h1
  obtain ⟨a2, e2, l2⟩ := open_apiNum h2
  obtain ⟨a3, e3, l3⟩ := open_apiNum h3
  obtain ⟨a4, e4, l4⟩ := open_apiNum h4
  obtain ⟨b, eb⟩ := open_i64 h5
  obtain ⟨c, ec⟩ := open_i64 h6
  obtain ⟨d, ed⟩ := open_i64 h7
  have e : cs = (cs.drop 0).take 2 ++ ((cs.drop 2).take 2 ++ ((cs.drop 4).take 2 ++ ((cs.drop 6).take 2 ++ ((cs.drop 8).take 2 ++ ((cs.drop 10).take 1 ++ ((cs.drop 11).take 1 ++ ((cs.drop 12).take 1 ++ cs.drop 13))))))) := by
    rw [← cut_list cs 12 1, ← cut_list cs 11 1, ← cut_list cs 10 1, ← cut_list cs 8 2, ← cut_list cs 6 2, ← cut_list cs 4 2, ← cut_list cs 2 2, ← cut_list cs 0 2]; rfl
  rw [e0, e1, e2, e3, e4, eb, ec, ed] at e
  refine ⟨(⟨a0, a1, a2, a3, a4, b, c, d⟩, cs.drop 13), by rw [gTr]; simpa using e, ⟨by simp [hl], fun u hu => hk.one u (List.mem_of_mem_drop hu)⟩, l0, l1, l2, l3, l4⟩
theorem open_apiRequest {cs : List Value} {x : DataW H × List MemPlace} (h : DataW.trod enc Try.prog W base (fun _ => true) held fuel 28 cs = some x) : ∃ s : RQ × Value × Value, cs = rqCells s.1 s.2.1 s.2.2 ∧ ∃ ga gt, ReqIn (bag (blks W)) s.1 s.2.1 s.2.2 ga gt := by
  have hl : cs.length = 8 := (trod_len T.ag28 h).trans T.co28
  obtain ⟨c0, c1, c2, c3, c4, c5, c6, c7, rfl⟩ : ∃ c0 c1 c2 c3 c4 c5 c6 c7, cs = [c0, c1, c2, c3, c4, c5, c6, c7] := by
    match cs, hl with
    | [a, b, c, d, e, f, g, i], _ => exact ⟨a, b, c, d, e, f, g, i, rfl⟩
  obtain ⟨_, _, h0⟩ := trod_field T.ft28_0 T.co3 h
  obtain ⟨_, _, h1⟩ := trod_field T.ft28_1 T.co22 h
  obtain ⟨_, _, h2⟩ := trod_field T.ft28_2 T.co23 h
  obtain ⟨_, _, h3⟩ := trod_field T.ft28_3 T.co26 h
  obtain ⟨_, _, h4⟩ := trod_field T.ft28_4 T.co3 h
  obtain ⟨_, _, h5⟩ := trod_field T.ft28_5 T.co3 h
  obtain ⟨_, _, h6⟩ := trod_field T.ft28_6 T.co3 h
  obtain ⟨k, ek⟩ := open_i64 h0
  obtain ⟨id, ei, hid⟩ := open_apiNum h3
  obtain ⟨fr, ef⟩ := open_i64 h4
  obtain ⟨to, et⟩ := open_i64 h5
  obtain ⟨li, el⟩ := open_i64 h6
  obtain ⟨r1, hr1, hq1⟩ := open_rows (by decide) T.un22 T.co59 (v := c1) h1
  obtain ⟨r2, hr2, hq2⟩ := open_rows (by decide) T.un23 T.co71 (v := c2) h2
  obtain ⟨ga, hga, pa⟩ := rows_of (fun x : AccS × List Value => gAcc x.1 x.2) _ hr1 fun r hrm => by
    obtain ⟨m, y, hy⟩ := hq1 r hrm
    exact open_apiAccount hy
  obtain ⟨gt, hgt, pt⟩ := rows_of (fun x : TrS × List Value => gTr x.1 x.2) _ hr2 fun r hrm => by
    obtain ⟨m, y, hy⟩ := hq2 r hrm
    exact open_apiTransfer hy
  refine ⟨(⟨k, ga.map Prod.fst, gt.map Prod.fst, id, fr, to, li⟩, c1, c2), ?_, ga, gt, rfl, rfl, hga, hgt, fun x hx => (pa x hx).1, fun x hx => (pt x hx).1, hid, fun a ha => ?_, fun t ht => ?_⟩
  · have e1 : [c0] = [.int .i64 k] := ek
    have e2 : [c3, c4] = nc id := ei
    have e3 : [c5] = [.int .i64 fr] := ef
    have e4 : [c6] = [.int .i64 to] := et
    have e5 : [c7] = [.int .i64 li] := el
    simp only [List.cons.injEq, and_true] at e1 e3 e4 e5
    subst e1; subst e3; subst e4; subst e5
    simp only [rqCells]
    rw [← e2]; rfl
  · obtain ⟨y, hy, rfl⟩ := List.mem_map.1 ha
    exact (pa y hy).2
  · obtain ⟨y, hy, rfl⟩ := List.mem_map.1 ht
    exact (pt y hy).2
end
end Go.Proofs.Ytpcjjchanjdkaaa
