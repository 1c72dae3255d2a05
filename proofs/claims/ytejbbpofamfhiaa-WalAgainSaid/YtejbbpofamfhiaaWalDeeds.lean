/- A list of deeds as it lies in memory when it reads as data; and the plain law of WalRuns: what is opened after a crash. -/
import Derived.Test.YtejbbpofamfhiaaWalLaw2
namespace Go.Proofs.Ytejbbpofamfhiaa
open Go Go.SL
set_option linter.unusedVariables false
set_option linter.unusedSimpArgs false

structure DeedS where
  kind : Int
  num : Int
  dv : Value
  data : List UInt8
  mask : Int
  torn : Int
  cut : Int
def deedCells (c : DeedS) : List Value := [.int .i64 c.kind, .int .i64 c.num, c.dv, .int .u64 c.mask, .int .i64 c.torn, .int .i64 c.cut]
def is64 (n : Int) : Prop := -9223372036854775808 ≤ n ∧ n < 9223372036854775808
structure DeedOk (A : Asn) (c : DeedS) : Prop where
  kind : is64 c.kind
  num : is64 c.num
  data : ByR A c.dv c.data
  len : c.data.length ≤ maxLen
  mask : 0 ≤ c.mask ∧ c.mask < 18446744073709551616
  torn : is64 c.torn
  cut : is64 c.cut
def DeedsR (A : Asn) (v : Value) (l : List DeedS) : Prop := RowsR A v 6 (l.map deedCells) ∧ ∀ c ∈ l, DeedOk A c

section
variable {H : Type} {enc : TypeId × Value → H} {W : World} {base : Nat} {held : Bool} {fuel : Nat}
theorem open_int64 {m : Nat} {t : TypeId} {v : Value} {y : DataW H × List MemPlace} (ht : Try.prog.underlying t = some (.int .i64)) (h : DataW.trod enc Try.prog W base (fun _ => true) held m t [v] = some y) : ∃ n, v = .int .i64 n ∧ is64 n := by
  obtain ⟨n, h1, _, h2⟩ := DataW.trod_int ht h
  have h3 := bounds_i64' h2
  simp only [List.cons.injEq, and_true] at h1
  exact ⟨n, h1, h3⟩
theorem open_deed {r : List Value} {m : Nat} {y : DataW H × List MemPlace} (h : DataW.trod enc Try.prog W base (fun _ => true) held m 59 r = some y) (hl : r.length = 6) :
    ∃ c, r = deedCells c ∧ DeedOk (bag (blks W)) c := by
  obtain ⟨v0, v1, v2, v3, v4, v5, rfl⟩ : ∃ v0 v1 v2 v3 v4 v5, r = [v0, v1, v2, v3, v4, v5] := by
    match r, hl with
    | [a, b, c, d, e, f], _ => exact ⟨a, b, c, d, e, f, rfl⟩
  obtain ⟨_, _, h0⟩ := trod_field T.ft59_0 T.co3 h
  obtain ⟨_, _, h1⟩ := trod_field T.ft59_1 T.co3 h
  obtain ⟨_, _, h2⟩ := trod_field T.ft59_2 T.co27 h
  obtain ⟨_, _, h3⟩ := trod_field T.ft59_3 T.co23 h
  obtain ⟨_, _, h4⟩ := trod_field T.ft59_4 T.co3 h
  obtain ⟨_, _, h5⟩ := trod_field T.ft59_5 T.co3 h
  obtain ⟨a, rfl, ha⟩ := open_int64 T.un3 h0
  obtain ⟨b, rfl, hb⟩ := open_int64 T.un3 h1
  obtain ⟨c, hc, hcl⟩ := open_bytes T.un27 T.un5 T.co5 h2
  obtain ⟨d, h3a, _, h3b⟩ := DataW.trod_int T.un23 h3
  have h3c := bounds_u64' h3b
  obtain ⟨e, rfl, he⟩ := open_int64 T.un3 h4
  obtain ⟨f, rfl, hf⟩ := open_int64 T.un3 h5
  have h3d : v3 = .int .u64 d := by simpa using h3a
  subst h3d
  exact ⟨⟨a, b, v2, c, d, e, f⟩, rfl, ⟨ha, hb, hc, hcl, h3c, he, hf⟩⟩
theorem open_Slpaciolilaw05Deed {v : Value} {x : DataW H × List MemPlace} (h : DataW.trod enc Try.prog W base (fun _ => true) held fuel 57 [v] = some x) : ∃ l, DeedsR (bag (blks W)) v l := by
  obtain ⟨rows, hr, hq⟩ := open_rows (by decide) T.un57 T.co59 h
  exact rows_of2 deedCells _ hr fun r hrm => by
    obtain ⟨m, y, hy⟩ := hq r hrm
    exact open_deed hy (hr.choose_spec.choose_spec.2.2.2.1 r hrm)
end
theorem DeedsR.len {A : Asn} {v : Value} {l : List DeedS} (h : DeedsR A v l) : ∃ p cap, v = .slice p l.length cap ∧ l.length ≤ cap ∧ cap ≤ maxLen ∧ (l ≠ [] → ∃ b o, p = some ⟨b, o, none⟩) := by
  obtain ⟨⟨p, cap, h1, h2, h3, _, h5, _⟩, _⟩ := h
  rw [List.length_map] at h1 h2
  exact ⟨p, cap, h1, h2, h3, fun hne => h5 (by simpa using hne)⟩
theorem DeedsR.src {A : Asn} {b o n cap : Nat} {l : List DeedS} (h : DeedsR A (.slice (some ⟨b, o, none⟩) n cap) l) {i : Nat} (hi : i < l.length) {As Bs : List Asn} (hp : As.Perm (A :: Bs)) :
    Src As (some ⟨b, o + i * 6, none⟩) (deedCells l[i]) := by
  obtain ⟨⟨p, cap, h1, h2, h3, _, h5, h6⟩, _⟩ := h
  cases h1
  have := h6 i (by simpa using hi) b o rfl As Bs hp
  simpa using this
theorem deedCells_one {A : Asn} {c : DeedS} (h : DeedOk A c) : ∀ u ∈ deedCells c, u.oneCell' = true := by
  obtain ⟨p, cap, hv, _⟩ := h.data
  intro u hu
  simp only [deedCells, hv, List.mem_cons, List.not_mem_nil, or_false] at hu
  rcases hu with rfl | rfl | rfl | rfl | rfl | rfl <;> rfl
/-! ## the plain law -/
theorem stampAt {st : DS} {rs : Rs} {B : Nat} (h : LogD st rs) (hB : ∀ r ∈ rs, r.1 ≤ B) (a : Nat) (ha : a < st.data.length) : num ((st.data.getD a []).take 4) ≤ B ∧ num ((st.data.getD a []).drop 60) ≤ B := by
  rcases Nat.lt_or_ge a (endR rs) with h1 | h1
  · have hl := encAll_len 1 rs
    have e := h.log.enc
    generalize st.data.length - endOf (rs.map (·.2)) = k at e
    rw [e, getD_app, if_pos (by rw [hl]; exact h1)]
    exact stamp_enc rs 1 a (fun r hr => ⟨h.log.good r hr, hB r hr⟩) (by rw [hl]; exact h1)
  · rw [h.log.zero a h1 ha]; exact stamp_Z B
/-- What is opened after a crash, whichever: all that was sure, and perhaps the one that was on its way. -/
def Reop (N B : Nat) (rs : Rs) (may : Bool) (b : List UInt8) (sX : DS) : Prop :=
  sX.Ok ∧ sX.wait.length ≤ 1000000 ∧ ∀ (mask : Nat) (torn cut : Int), ∃ (rs2 : Rs) (S : Nat) (st2 : DS), (rs2.map (·.2) = rs.map (·.2) ∨ (may = true ∧ rs2.map (·.2) = rs.map (·.2) ++ [b])) ∧ LogD st2 rs2 ∧ st2.armed = false ∧ st2.data.length = N ∧ st2.count ≤ 5000 * B ∧ S ≤ B ∧ (∀ r ∈ rs2, r.1 ≤ B) ∧
    ∀ p, FSpec Try.prog 29 [ptr p] [DiskAt p (sX.crash mask torn cut)] (fun v As => ∃ (w : Nat) (es : WEs) (q : Option Addr) (d : Nat), es.map (·.2) = rs2.map (·.2) ∧ (∀ e ∈ es, ByR (EnA e.1 e.2) e.1 e.2) ∧ v = .tuple #[ptr w, .slice q es.length d, .int .i64 0] ∧
      As = OutA w p rs2 S es q d ++ [DiskAt p st2])
theorem reop_clean {N B : Nat} {rs : Rs} {st : DS} (b : List UInt8) (may : Bool) (h : LogD st rs) (hN : st.data.length = N) (hc : st.count ≤ 5000 * B) (hB : ∀ r ∈ rs, r.1 ≤ B) (hB2 : B ≤ 1000) : Reop N B rs may b st := by
  refine ⟨h.ok, by rw [h.wait]; exact Nat.zero_le _, fun mask torn cut => ?_⟩
  obtain ⟨h1, h2, h3, h4, h5⟩ := crash_clean h mask torn cut
  exact ⟨rs, _, _, Or.inl rfl, h1, h2, by rw [h3]; exact hN, by rw [h4]; exact hc, h1.stamp hB, hB, fun p => Open_log p _ rs h1 h2 (by rw [h4]; omega)⟩
theorem reop_down {N B s : Nat} {rs : Rs} {st : DS} {b : List UInt8} (h : LogD st rs) (hN : st.data.length = N) (hl : b.length ≤ 600) (hf : endR rs + sz b.length ≤ N) (hn : rs.length ≤ 1000) (hc : st.count + 4200 ≤ 5000 * B) (hB : ∀ r ∈ rs, r.1 ≤ B) (hs : s + 1 ≤ B) (hB2 : B ≤ 1000) : Reop N B rs true b (after st (appW rs s b)) := by
  subst hN
  have hok2 := after_ok (l := appW rs s b) h.ok (appW_fit hf)
  have hz : sz b.length ≤ 11 := by unfold sz; omega
  have hlen : (appW rs s b).length = sz b.length := len_recW (endR rs) (s + 1) (rs.length + 1) b
  have ht : takes st (appW rs s b).length ≤ 11 := by unfold takes; rw [hlen]; split <;> omega
  have hg : GoodR (s + 1, b) := ⟨Nat.succ_pos _, by unfold G32; dsimp only; omega, by dsimp only; omega⟩
  refine ⟨hok2, ?_, fun mask torn cut => ?_⟩
  · show (st.wait ++ ((appW rs s b).take (takes st (appW rs s b).length)).map pw64).length ≤ 1000000
    rw [h.wait, List.nil_append, List.length_map, List.length_take]; omega
  obtain ⟨c1, c2, c3, c4⟩ := crash_app (s := s) h (by omega) (by unfold G32; omega) hf mask torn cut
  have hok3 := DS.crash_ok hok2 mask torn cut
  have hcnt : 0 ≤ ((after st (appW rs s b)).crash mask torn cut).count ∧ ((after st (appW rs s b)).crash mask torn cut).count ≤ st.count + 11 := by
    have := h.cnt
    constructor
    · show 0 ≤ st.count + (takes st (appW rs s b).length : Nat); omega
    · show st.count + (takes st (appW rs s b).length : Nat) ≤ _; omega
  have hlft : 0 ≤ ((after st (appW rs s b)).crash mask torn cut).left ∧ ((after st (appW rs s b)).crash mask torn cut).left < 9223372036854775808 := by
    have := h.lft
    have ht2 : st.armed = true → (takes st (appW rs s b).length : Int) ≤ st.left := fun ha => by
      unfold takes; rw [ha, if_pos rfl]; omega
    show 0 ≤ (if st.armed then st.left - (takes st (appW rs s b).length : Nat) else st.left) ∧ (if st.armed then st.left - (takes st (appW rs s b).length : Nat) else st.left) < _
    split
    · rename_i ha
      have := ht2 ha
      omega
    · exact this
  have hst : stampMax ((after st (appW rs s b)).crash mask torn cut).data ≤ B := stampMax_le fun a ha => by
    rcases Nat.lt_or_ge a (endR rs) with h1 | h1
    · rw [c2 a h1]; exact stampAt h hB a (by omega)
    · rcases Nat.lt_or_ge a (endR rs + sz b.length) with h2 | h2
      · obtain ⟨x, hx, e⟩ := c4 (a - endR rs) (by omega)
        rw [show endR rs + (a - endR rs) = a by omega] at e
        have := torn_le (s := s + 1) (by unfold G32; omega) (payload (rs.length + 1) b) (a - endR rs) x hx
        rw [e]; omega
      · rw [c3 a h2 (by omega)]; exact stamp_Z B
  have hc4 := h.cnt
  rcases part_cases hg h.log (by unfold G32; omega) c1 hf c2 c4 c3 with hL | hL
  · have hB' : ∀ r ∈ rs ++ [(s + 1, b)], r.1 ≤ B := fun r hr => by
      rcases List.mem_append.1 hr with hr | hr
      · exact hB r hr
      · rw [List.mem_singleton] at hr; subst hr; exact hs
    have hD : LogD ((after st (appW rs s b)).crash mask torn cut) (rs ++ [(s + 1, b)]) := ⟨hok3, rfl, hL, by rw [List.length_append]; show rs.length + 1 ≤ _; omega, ⟨hcnt.1, by omega⟩, hlft⟩
    exact ⟨_, _, _, Or.inr ⟨rfl, by rw [List.map_append]; rfl⟩, hD, rfl, c1, by omega, hst, hB', fun p => Open_log p _ _ hD rfl (by omega)⟩
  · have htk := (take_same c1 c2).trans h.log.take
    obtain ⟨o1, o2, o3, o4, o5, o6⟩ := openD_log (rs := rs) hok3 rfl rfl h.log.good (by rw [c1]; omega) htk (by omega) ⟨hcnt.1, by omega⟩ hlft
    exact ⟨rs, _, _, Or.inl rfl, o1, o2, by rw [o3, c1], by omega, hst, hB, fun p => Open_any p _ rs hok3 rfl rfl h.log.good htk (by omega) ⟨hcnt.1, by omega⟩ hlft hL⟩
end Go.Proofs.Ytejbbpofamfhiaa
