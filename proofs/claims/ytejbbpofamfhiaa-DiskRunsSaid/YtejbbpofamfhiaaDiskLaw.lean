/- A list of calls as it lies in memory when it reads as data. -/
import Derived.Test.YtejbbpofamfhiaaDiskU
import Derived.Test.YtejbbpofamfhiaaLaw
namespace Go.Proofs.Ytejbbpofamfhiaa
open Go Go.SL
set_option linter.unusedVariables false
set_option linter.unusedSimpArgs false

structure CallS where
  kind : Int
  at_ : Int
  dv : Value
  data : List UInt8
  mask : Int
  torn : Int
  cut : Int
def callCells (c : CallS) : List Value := [.int .i64 c.kind, .int .i64 c.at_, c.dv, .int .u64 c.mask, .int .i64 c.torn, .int .i64 c.cut]
def is64 (n : Int) : Prop := -9223372036854775808 ≤ n ∧ n < 9223372036854775808
structure CallOk (A : Asn) (c : CallS) : Prop where
  kind : is64 c.kind
  at_ : is64 c.at_
  data : ByR A c.dv c.data
  len : c.data.length ≤ maxLen
  mask : 0 ≤ c.mask ∧ c.mask < 18446744073709551616
  torn : is64 c.torn
  cut : is64 c.cut
def CallsR (A : Asn) (v : Value) (l : List CallS) : Prop := RowsR A v 6 (l.map callCells) ∧ ∀ c ∈ l, CallOk A c

section
variable {H : Type} {enc : TypeId × Value → H} {W : World} {base : Nat} {held : Bool} {fuel : Nat}
theorem open_int64 {m : Nat} {t : TypeId} {v : Value} {y : DataW H × List MemPlace} (ht : Try.prog.underlying t = some (.int .i64)) (h : DataW.trod enc Try.prog W base (fun _ => true) held m t [v] = some y) : ∃ n, v = .int .i64 n ∧ is64 n := by
  obtain ⟨n, h1, _, h2⟩ := DataW.trod_int ht h
  have h3 := bounds_i64' h2
  simp only [List.cons.injEq, and_true] at h1
  exact ⟨n, h1, h3⟩
theorem open_call {r : List Value} {m : Nat} {y : DataW H × List MemPlace} (h : DataW.trod enc Try.prog W base (fun _ => true) held m 29 r = some y) (hl : r.length = 6) :
    ∃ c, r = callCells c ∧ CallOk (bag (blks W)) c := by
  obtain ⟨v0, v1, v2, v3, v4, v5, rfl⟩ : ∃ v0 v1 v2 v3 v4 v5, r = [v0, v1, v2, v3, v4, v5] := by
    match r, hl with
    | [a, b, c, d, e, f], _ => exact ⟨a, b, c, d, e, f, rfl⟩
  obtain ⟨_, _, h0⟩ := trod_field T.ft29_0 T.co3 h
  obtain ⟨_, _, h1⟩ := trod_field T.ft29_1 T.co3 h
  obtain ⟨_, _, h2⟩ := trod_field T.ft29_2 T.co27 h
  obtain ⟨_, _, h3⟩ := trod_field T.ft29_3 T.co23 h
  obtain ⟨_, _, h4⟩ := trod_field T.ft29_4 T.co3 h
  obtain ⟨_, _, h5⟩ := trod_field T.ft29_5 T.co3 h
  obtain ⟨a, rfl, ha⟩ := open_int64 T.un3 h0
  obtain ⟨b, rfl, hb⟩ := open_int64 T.un3 h1
  obtain ⟨c, hc, hcl⟩ := open_bytes T.un27 T.un5 T.co5 h2
  obtain ⟨d, h3a, _, h3b⟩ := DataW.trod_int T.un23 h3
  have h3c := bounds_u64' h3b
  obtain ⟨e, rfl, he⟩ := open_int64 T.un3 h4
  obtain ⟨f, rfl, hf⟩ := open_int64 T.un3 h5
  have h3d : v3 = .int .u64 d := by simpa using h3a
  subst h3d
  exact ⟨⟨a, b, v2, c, d, e, f⟩, rfl, ⟨ha, hb, hc, hcl, h3c, he, hf⟩⟩
theorem rows_of {α : Type} {A : Asn} {v : Value} {s : Nat} {rows : List (List Value)} (g : α → List Value) (Q : α → Prop) (hr : RowsR A v s rows) (h : ∀ r ∈ rows, ∃ c, r = g c ∧ Q c) : ∃ l : List α, RowsR A v s (l.map g) ∧ ∀ c ∈ l, Q c := by
  have key : ∀ rows : List (List Value), (∀ r ∈ rows, ∃ c, r = g c ∧ Q c) → ∃ l : List α, rows = l.map g ∧ ∀ c ∈ l, Q c := by
    intro rows
    induction rows with
    | nil => exact fun _ => ⟨[], rfl, by simp⟩
    | cons r rows ih =>
      intro h
      obtain ⟨c, rfl, hc⟩ := h r (by simp)
      obtain ⟨l, rfl, hl⟩ := ih fun q hq => h q (by simp [hq])
      exact ⟨c :: l, rfl, by simpa using ⟨hc, hl⟩⟩
  obtain ⟨l, rfl, hl⟩ := key rows h
  exact ⟨l, hr, hl⟩
theorem open_Slpaciolilaw04Call {v : Value} {x : DataW H × List MemPlace} (h : DataW.trod enc Try.prog W base (fun _ => true) held fuel 22 [v] = some x) : ∃ l, CallsR (bag (blks W)) v l := by
  obtain ⟨rows, hr, hq⟩ := open_rows (by decide) T.un22 T.co29 h
  exact rows_of callCells _ hr fun r hrm => by
    obtain ⟨m, y, hy⟩ := hq r hrm
    exact open_call hy (hr.choose_spec.choose_spec.2.2.2.1 r hrm)
end

/-- Eight disks' worth of writes. -/
def wOf (k : Nat) (c : CallS) : Nat × List UInt8 := ((c.at_ % k).toNat, pad 64 c.data)
/-- What a crash that keeps whole writes leaves. -/
theorem crash_read {mask : Nat} {k : Nat} : ∀ (l : List ((Nat × List UInt8) × Nat)) (d : List (List UInt8)), (∀ x ∈ l, x.1.2.length = 64 ∧ x.1.1 < d.length) → (∀ q ∈ d, q.length = 64) →
    (l.foldl (crash1 mask (-1) 0) d).getD k [] = ((l.filter fun x => decide (mask / 2 ^ (x.2 % 64) % 2 ≠ 0)).map Prod.fst).foldl (fun s w => if w.1 = k then w.2 else s) (d.getD k [])
  | [], d, _, _ => rfl
  | x :: l, d, hl, hd => by
    have hx := hl x (by simp)
    have hc := crash1_ok (mask := mask) (torn := -1) (cut := 0) hd hx.1 hx.2
    rw [List.foldl_cons, crash_read l _ (fun y hy => by rw [hc.1]; exact hl y (by simp [hy])) hc.2]
    by_cases hb : mask / 2 ^ (x.2 % 64) % 2 = 0
    · have h1 : crash1 mask (-1) 0 d x = d := by unfold crash1; rw [if_pos hb]
      rw [h1, List.filter_cons_of_neg (by simpa using hb)]
    · have hcl : cutLen (-1) 0 x.2 = 64 := by
        unfold cutLen; rw [if_neg (by omega)]
      have h1 : crash1 mask (-1) 0 d x = d.set x.1.1 x.1.2 := by
        unfold crash1
        rw [if_neg hb, hcl, List.take_of_length_le (by omega), List.drop_eq_nil_of_le, List.append_nil]
        rw [List.getD_eq_getElem?_getD, List.getElem?_eq_getElem hx.2]
        exact Nat.le_of_eq (hd _ (List.getElem_mem hx.2))
      rw [h1, List.filter_cons_of_pos (by simpa using hb), List.map_cons, List.foldl_cons]
      congr 1
      simp only [List.getD_eq_getElem?_getD, List.getElem?_set]
      by_cases hk : x.1.1 = k
      · rw [if_pos hk, if_pos hk, if_pos hx.2]; rfl
      · rw [if_neg hk, if_neg hk]
theorem CallsR.len {A : Asn} {v : Value} {l : List CallS} (h : CallsR A v l) : ∃ p cap, v = .slice p l.length cap ∧ l.length ≤ cap ∧ cap ≤ maxLen ∧ (l ≠ [] → ∃ b o, p = some ⟨b, o, none⟩) := by
  obtain ⟨⟨p, cap, h1, h2, h3, _, h5, _⟩, _⟩ := h
  rw [List.length_map] at h1 h2
  exact ⟨p, cap, h1, h2, h3, fun hne => h5 (by simpa using hne)⟩
theorem CallsR.src {A : Asn} {b o n cap : Nat} {l : List CallS} (h : CallsR A (.slice (some ⟨b, o, none⟩) n cap) l) {i : Nat} (hi : i < l.length) {As Bs : List Asn} (hp : As.Perm (A :: Bs)) :
    Src As (some ⟨b, o + i * 6, none⟩) (callCells l[i]) := by
  obtain ⟨⟨p, cap, h1, h2, h3, _, h5, h6⟩, _⟩ := h
  cases h1
  have := h6 i (by simpa using hi) b o rfl As Bs hp
  simpa using this
theorem callCells_one {A : Asn} {c : CallS} (h : CallOk A c) : ∀ u ∈ callCells c, u.oneCell' = true := by
  obtain ⟨p, cap, hv, _⟩ := h.data
  intro u hu
  simp only [callCells, hv, List.mem_cons, List.not_mem_nil, or_false] at hu
  rcases hu with rfl | rfl | rfl | rfl | rfl | rfl <;> rfl
theorem shr_bit' (mask i : Nat) (hi : i < 64) : ((mask : Int).fdiv (2 ^ (min ((i : Nat) : Int).toNat 64))) % ((2 ^ 1 : Nat) : Int) = ((mask / 2 ^ (i % 64) % 2 : Nat) : Int) := by
  have h := shr_bit mask i
  rw [Nat.mod_eq_of_lt hi] at h ⊢
  exact h
end Go.Proofs.Ytejbbpofamfhiaa
