/- Open and Append over a log: their contracts as the laws use them. -/
import Derived.Test.YtejbbpofamfhiaaWalN
namespace Go.Proofs.Ytejbbpofamfhiaa
set_option linter.unusedVariables false
set_option linter.unusedSimpArgs false
open Go Go.SL

/-- A disk that bears a log, all of it sure. -/
structure LogD (st : DS) (rs : Rs) : Prop where
  ok : st.Ok
  wait : st.wait = []
  log : Log st.data rs
  num : rs.length ≤ 100000
  cnt : 0 ≤ st.count ∧ st.count ≤ 10000000
  lft : 0 ≤ st.left ∧ st.left < 9223372036854775808
abbrev endR (rs : Rs) : Nat := endOf (rs.map (·.2))
theorem wipes_none {V : List (List UInt8)} {E : Nat} (h : ∀ a, E ≤ a → a < V.length → V.getD a [] = Z64) : wipes V E = [] := by
  cases hw : wipes V E with
  | nil => rfl
  | cons w l =>
    have := wipesF_mem (V.length - E) E w (by show w ∈ wipes V E; rw [hw]; simp)
    exact absurd (h w.1 this.1 (by omega)) this.2.2.2
theorem flush_none {st : DS} (h : st.wait = []) : st.flush = st := by
  obtain ⟨d, w, a, l, c⟩ := st
  dsimp only at h
  subst h
  rfl
theorem after_nil (st : DS) : after st [] = st := by
  obtain ⟨d, w, a, l, c⟩ := st
  have : takes ⟨d, w, a, l, c⟩ 0 = 0 := by unfold takes; split <;> omega
  simp only [after, List.length_nil, this, List.take_nil, List.map_nil, List.append_nil, Int.natCast_zero, Int.add_zero, Int.sub_zero, ite_self]
/-- What Open makes of a disk that is not armed. -/
def openD (st : DS) (E : Nat) : DS := (after st (wipes st.data E)).flush
theorem wipes_fit {V : List (List UInt8)} {E : Nat} : ∀ w ∈ wipes V E, w.1 < V.length ∧ w.2.length ≤ 64 := fun w hw => by
  obtain ⟨h1, h2, h3, _⟩ := wipesF_mem (V.length - E) E w hw
  exact ⟨by omega, by rw [h3]; simp⟩
theorem wipesF_len {V : List (List UInt8)} : ∀ (m a : Nat), (wipesF V m a).length ≤ m
  | 0, _ => Nat.le_refl _
  | m + 1, a => by
    simp only [wipesF]
    have := wipesF_len (V := V) m (a + 1)
    split
    · omega
    · simp only [List.length_cons]; omega
theorem openD_data {st : DS} {E : Nat} (hw : st.wait = []) (ha : st.armed = false) (hE : E ≤ st.data.length) : (openD st E).data = st.data.take E ++ List.replicate (st.data.length - E) Z64 := by
  show ((after st (wipes st.data E)).wait).foldl putW st.data = _
  rw [show (after st (wipes st.data E)).wait = (wipes st.data E).map pw64 by
    show st.wait ++ _ = _
    rw [hw, (after_free ha _).1, List.take_length, List.nil_append]]
  exact wiped_data hE
theorem len64_app {A : List (List UInt8)} {k : Nat} (h : ∀ s ∈ A, s.length = 64) : ∀ s ∈ A ++ List.replicate k Z64, s.length = 64 := fun s hs => by
  rcases List.mem_append.1 hs with hs | hs
  · exact h s hs
  · rw [List.eq_of_mem_replicate hs]; simp
theorem openD_log {st : DS} {rs : Rs} (hok : st.Ok) (hw : st.wait = []) (ha : st.armed = false) (hg : ∀ r ∈ rs, GoodR r) (hE : endR rs ≤ st.data.length) (ht : st.data.take (endR rs) = encAll 1 rs) (hn : rs.length ≤ 100000) (hc : 0 ≤ st.count ∧ st.count ≤ 9000000) (hl : 0 ≤ st.left ∧ st.left < 9223372036854775808) :
    LogD (openD st (endR rs)) rs ∧ (openD st (endR rs)).armed = false ∧ (openD st (endR rs)).data.length = st.data.length ∧ (openD st (endR rs)).left = st.left ∧ st.count ≤ (openD st (endR rs)).count ∧ (openD st (endR rs)).count ≤ st.count + 4096 := by
  have hd := openD_data hw ha hE
  have hlen : (openD st (endR rs)).data.length = st.data.length := by rw [hd, List.length_append, List.length_take, List.length_replicate]; omega
  have hcnt : (openD st (endR rs)).count = st.count + ((wipes st.data (endR rs)).length : Nat) := by
    show st.count + (takes st (wipes st.data (endR rs)).length : Nat) = _
    rw [(after_free ha _).1]
  have hwl := wipesF_len (V := st.data) (st.data.length - endR rs) (endR rs)
  have hok4 := hok.n
  have hleft : (openD st (endR rs)).left = st.left := by
    show (if st.armed then _ else st.left) = _
    rw [ha]; rfl
  have hwl2 : (wipes st.data (endR rs)).length ≤ 4096 := by unfold wipes; omega
  refine ⟨⟨⟨?_, by rw [hlen]; exact hok4, fun w h => by cases h⟩, rfl, ⟨hg, by rw [hlen]; exact hE, ?_⟩, hn, by rw [hcnt]; omega, by rw [hleft]; exact hl⟩, ha, hlen, hleft, by rw [hcnt]; omega, by rw [hcnt]; omega⟩
  · rw [hd]
    exact len64_app fun s hs => hok.dlen s (List.mem_of_mem_take hs)
  · rw [hlen, hd, ht]
/-- What an opened log's parts are. -/
def OutA (w p : Nat) (rs : Rs) (S : Nat) (es : WEs) (q : Option Addr) (d : Nat) : List Asn := [cb w 83 (walC p (endR rs) rs.length S), slOwn 27 1 (.slice q es.length d) es.length (es.map (·.1)), AllP (es.map enP)]
theorem Open_any (p : Nat) (st : DS) (rs : Rs) (hok : st.Ok) (hw : st.wait = []) (ha : st.armed = false) (hg : ∀ r ∈ rs, GoodR r) (ht : st.data.take (endR rs) = encAll 1 rs) (hn : rs.length ≤ 100000) (hc : 0 ≤ st.count ∧ st.count ≤ 9000000) (hl : 0 ≤ st.left ∧ st.left < 9223372036854775808)
    (hr : recAt st.data (endR rs) (rs.length + 1) = none) :
    FSpec Try.prog 29 [ptr p] [DiskAt p st] (fun v As => ∃ (w : Nat) (es : WEs) (q : Option Addr) (d : Nat), es.map (·.2) = rs.map (·.2) ∧ (∀ e ∈ es, ByR (EnA e.1 e.2) e.1 e.2) ∧ v = .tuple #[ptr w, .slice q es.length d, .int .i64 0] ∧
      As = OutA w p rs (stampMax st.data) es q d ++ [DiskAt p (openD st (endR rs))]) := by
  have hR : recsA st.data 0 0 = rs.map (·.2) := by
    have e := split_at ht
    rw [e]
    exact recs_log hg (by unfold G32; omega) (by rw [← e]; exact hr)
  have hws := writes_is (wipes st.data (endR rs)) st hl.1 wipes_fit
  obtain ⟨t1, t2, _⟩ := after_free ha (wipes st.data (endR rs))
  rw [t1, if_neg (Nat.lt_irrefl _)] at hws
  have h := Open_spec p st hok hw ⟨hc.1, by omega⟩ hl
  rw [hR, show endOf (rs.map (·.2)) = endR rs from rfl, hws] at h
  refine h.mono (Ent.refl _) ?_
  rintro v As (⟨h1, _⟩ | ⟨_, h2, _⟩ | ⟨_, _, w, es, q, d, e1, e2, rfl, rfl⟩)
  · exact absurd rfl h1
  · rw [t2] at h2; cases h2
  · have el : es.length = rs.length := by simpa using congrArg List.length e1
    refine ⟨_, ⟨w, es, q, d, e1, e2, rfl, rfl⟩, ?_⟩
    unfold OutA openD
    rw [el]
    exact Ent.refl _
theorem zero_end {V : List (List UInt8)} {E n : Nat} (h : E < V.length → V.getD E [] = Z64) : recAt V E n = none := by
  refine recAt_not ?_
  rcases Nat.lt_or_ge E V.length with h1 | h1
  · rw [secAt_getD h1, h h1]; exact sec_Z
  · rw [secAt_none h1]
theorem LogD.none {st : DS} {rs : Rs} (h : LogD st rs) (n : Nat) : recAt st.data (endR rs) n = none := zero_end fun h1 => h.log.zero _ (Nat.le_refl _) h1
theorem LogD.openD {st : DS} {rs : Rs} (h : LogD st rs) : openD st (endR rs) = st := by
  unfold Go.Proofs.Ytejbbpofamfhiaa.openD
  rw [wipes_none fun a h1 h2 => h.log.zero a h1 h2, after_nil, flush_none h.wait]
theorem Open_log (p : Nat) (st : DS) (rs : Rs) (h : LogD st rs) (ha : st.armed = false) (hc : st.count ≤ 9000000) :
    FSpec Try.prog 29 [ptr p] [DiskAt p st] (fun v As => ∃ (w : Nat) (es : WEs) (q : Option Addr) (d : Nat), es.map (·.2) = rs.map (·.2) ∧ (∀ e ∈ es, ByR (EnA e.1 e.2) e.1 e.2) ∧ v = .tuple #[ptr w, .slice q es.length d, .int .i64 0] ∧
      As = OutA w p rs (stampMax st.data) es q d ++ [DiskAt p st]) := by
  have := Open_any p st rs h.ok h.wait ha h.log.good h.log.take h.num ⟨h.cnt.1, hc⟩ h.lft (h.none _)
  rwa [h.openD] at this
/-! ## Append -/
abbrev appW (rs : Rs) (s : Nat) (b : List UInt8) : List (Nat × List UInt8) := recW (endR rs) (s + 1) (rs.length + 1) b
def appD (st : DS) (rs : Rs) (s : Nat) (b : List UInt8) : DS := (after st (appW rs s b)).flush
theorem appW_fit {rs : Rs} {s : Nat} {b : List UInt8} {n : Nat} (h : endR rs + sz b.length ≤ n) : ∀ w ∈ appW rs s b, w.1 < n ∧ w.2.length ≤ 64 := fun w hw => by
  obtain ⟨h1, h2, h3⟩ := recW_mem hw
  exact ⟨by omega, by omega⟩
theorem Append_go (w p s : Nat) (st : DS) (rs : Rs) (A : Asn) (v : Value) (b : List UInt8) (hb : ByR A v b) (hl : b.length ≤ 4096) (h : LogD st rs) (hs : s ≤ 4000000000) (hf : endR rs + sz b.length ≤ st.data.length) (hfree : st.armed = false ∨ (sz b.length : Int) < st.left) :
    FSpec Try.prog 30 [ptr w, v] [cb w 83 (walC p (endR rs) rs.length s), DiskAt p st, A] (fun r As => r = .int .i64 0 ∧ As = [cb w 83 (walC p (endR rs + sz b.length) (rs.length + 1) (s + 1)), DiskAt p (appD st rs s b), A]) := by
  have hws := writes_is (appW rs s b) st h.lft.1 (appW_fit hf)
  have hlen : (appW rs s b).length = sz b.length := len_recW (endR rs) (s + 1) (rs.length + 1) b
  have ht : takes st (appW rs s b).length = (appW rs s b).length := by
    unfold takes
    rcases hfree with h1 | h1
    · rw [h1]; rfl
    · split
      · have := h.lft.1; omega
      · rfl
  rw [ht, if_neg (Nat.lt_irrefl _)] at hws
  have hd : (after st (appW rs s b)).down = false := by
    unfold DS.down
    rcases hfree with h1 | h1
    · show (st.armed && _) = false; rw [h1]; rfl
    · show (st.armed && decide ((if st.armed then st.left - (takes st (appW rs s b).length : Nat) else st.left) = 0)) = false
      rw [ht]
      cases st.armed with
      | false => rfl
      | true => simp only [Bool.true_and, if_true, decide_eq_false_iff_not]; omega
  refine (Append_ok w p (endR rs) rs.length s st h.ok h.wait ⟨h.cnt.1, by have := h.cnt.2; omega⟩ h.lft A v b hb hl (by have := h.num; omega) (by omega) hf).mono (Ent.refl _) ?_
  rw [show writes (recW (endR rs) (s + 1) (rs.length + 1) b) st = _ from hws]
  rintro r As (⟨h1, _⟩ | ⟨_, h2, _⟩ | ⟨_, _, rfl, rfl⟩)
  · exact absurd rfl h1
  · rw [hd] at h2; cases h2
  · exact ⟨_, ⟨rfl, rfl⟩, Ent.refl _⟩
theorem Append_down (w p s : Nat) (st : DS) (rs : Rs) (A : Asn) (v : Value) (b : List UInt8) (hb : ByR A v b) (hl : b.length ≤ 4096) (h : LogD st rs) (hs : s ≤ 4000000000) (hf : endR rs + sz b.length ≤ st.data.length) (ha : st.armed = true) (hdn : st.left ≤ (sz b.length : Int)) :
    FSpec Try.prog 30 [ptr w, v] [cb w 83 (walC p (endR rs) rs.length s), DiskAt p st, A] (fun r As => r = .int .i64 4 ∧ As = [cb w 83 (walC p (endR rs) rs.length (s + 1)), DiskAt p (after st (appW rs s b)), A]) := by
  have hws := writes_is (appW rs s b) st h.lft.1 (appW_fit hf)
  have hlen : (appW rs s b).length = sz b.length := len_recW (endR rs) (s + 1) (rs.length + 1) b
  have h0 := h.lft.1
  have ht : takes st (appW rs s b).length = st.left.toNat := by
    unfold takes; rw [ha, if_pos rfl]; omega
  have hd : (after st (appW rs s b)).down = true := by
    unfold DS.down
    show (st.armed && decide ((if st.armed then st.left - (takes st (appW rs s b).length : Nat) else st.left) = 0)) = true
    rw [ht, ha]
    simp only [Bool.true_and, if_true, decide_eq_true_eq]; omega
  refine (Append_ok w p (endR rs) rs.length s st h.ok h.wait ⟨h.cnt.1, by have := h.cnt.2; omega⟩ h.lft A v b hb hl (by have := h.num; omega) (by omega) hf).mono (Ent.refl _) ?_
  rw [show writes (recW (endR rs) (s + 1) (rs.length + 1) b) st = _ from hws]
  rintro r As (⟨h1, rfl, rfl⟩ | ⟨_, h2, rfl, rfl⟩ | ⟨h1, h2, _⟩)
  · refine ⟨_, ⟨?_, rfl⟩, Ent.refl _⟩
    dsimp only at h1 ⊢
    split at h1
    · rw [if_pos (by assumption)]
    · exact absurd rfl h1
  · exact ⟨_, ⟨rfl, rfl⟩, Ent.refl _⟩
  · rw [hd] at h2; cases h2
theorem appD_log {st : DS} {rs : Rs} {s : Nat} {b : List UInt8} (h : LogD st rs) (hl : b.length ≤ 4096) (hs : s + 1 < G32) (hn : rs.length < 100000) (hf : endR rs + sz b.length ≤ st.data.length) (hc : st.count ≤ 9000000) (hfree : st.armed = false ∨ (sz b.length : Int) < st.left) :
    LogD (appD st rs s b) (rs ++ [(s + 1, b)]) ∧ (appD st rs s b).armed = st.armed ∧ (appD st rs s b).data.length = st.data.length ∧ (appD st rs s b).count = st.count + (sz b.length : Nat) ∧ (appD st rs s b).left = if st.armed then st.left - (sz b.length : Nat) else st.left := by
  have hlen : (appW rs s b).length = sz b.length := len_recW (endR rs) (s + 1) (rs.length + 1) b
  have hz2 : sz b.length ≤ 75 := by unfold sz; omega
  have ht : takes st (appW rs s b).length = sz b.length := by
    unfold takes
    rw [hlen]
    rcases hfree with h1 | h1
    · rw [h1]; rfl
    · split
      · have := h.lft.1; omega
      · rfl
  have hwt : (after st (appW rs s b)).wait = appW rs s b := by
    show st.wait ++ ((appW rs s b).take (takes st (appW rs s b).length)).map pw64 = _
    rw [h.wait, ht, ← hlen, List.take_length, pw_recW, List.nil_append]
  have hd : (appD st rs s b).data = (appW rs s b).foldl putW st.data := by
    show ((after st (appW rs s b)).wait).foldl putW st.data = _
    rw [hwt]
  have hl2 : (appD st rs s b).data.length = st.data.length := by rw [hd, putW_len]
  have hcnt : (appD st rs s b).count = st.count + (sz b.length : Nat) := by
    show st.count + (takes st (appW rs s b).length : Nat) = _
    rw [ht]
  have hlf : (appD st rs s b).left = if st.armed then st.left - (sz b.length : Nat) else st.left := by
    show (if st.armed then st.left - (takes st (appW rs s b).length : Nat) else st.left) = _
    rw [ht]
  have hnd := recW_nodup (endR rs) (s + 1) (rs.length + 1) b
  refine ⟨⟨⟨?_, by rw [hl2]; exact h.ok.n, fun w hw => by cases hw⟩, rfl, ?_, by rw [List.length_append]; simp; omega, by rw [hcnt]; have := h.cnt.1; omega, by
    rw [hlf]; have := h.lft
    split
    · rcases hfree with h1 | h1
      · rename_i h2; rw [h1] at h2; cases h2
      · omega
    · exact this⟩, rfl, hl2, hcnt, hlf⟩
  · rw [hd]
    exact putW_all _ _ (fun w hw => (recW_mem hw).2.2) h.ok.dlen
  · refine h.log.snoc ⟨Nat.succ_pos _, hs, hl⟩ hl2 hf (fun a ha => ?_) (fun i hi => ?_) (fun a h1 h2 => ?_)
    · rw [hd, putW_out]
      intro w hw
      have := (recW_mem hw).1
      have ha' : a < endR rs := ha
      omega
    · have hm : (endR rs + i, secOf (s + 1) (payload (rs.length + 1) b) i) ∈ appW rs s b := List.mem_map.2 ⟨i, List.mem_range.2 hi, rfl⟩
      have := putW_in _ st.data _ hnd hm (by dsimp only; omega)
      rw [hd]; exact this
    · rw [hd, putW_out, h.log.zero a (by omega) h2]
      intro w hw
      have := (recW_mem hw).2.1
      have h1' : endR rs + sz b.length ≤ a := h1
      omega
/-- What a crash leaves of it. -/
theorem crash_app {st : DS} {rs : Rs} {s : Nat} {b : List UInt8} (h : LogD st rs) (hl : b.length ≤ 4096) (hs : s + 1 < G32) (hf : endR rs + sz b.length ≤ st.data.length) (mask : Nat) (torn cut : Int) :
    ((after st (appW rs s b)).crash mask torn cut).data.length = st.data.length ∧ (∀ a, a < endR rs → ((after st (appW rs s b)).crash mask torn cut).data.getD a [] = st.data.getD a []) ∧
    (∀ a, endR rs + sz b.length ≤ a → a < st.data.length → ((after st (appW rs s b)).crash mask torn cut).data.getD a [] = Z64) ∧
    (∀ i, i < sz b.length → ∃ x, x ≤ 64 ∧ ((after st (appW rs s b)).crash mask torn cut).data.getD (endR rs + i) [] = (secOf (s + 1) (payload (rs.length + 1) b) i).take x ++ Z64.drop x) := by
  refine crash_part (m := takes st (appW rs s b).length) (fun a h1 h2 => h.log.zero a h1 h2) hf mask torn cut _ ?_
  show crashTo mask torn cut (st.wait ++ ((appW rs s b).take (takes st (appW rs s b).length)).map pw64) st.data = _
  rw [h.wait, List.nil_append, List.map_take, pw_recW]
theorem after_ok {st : DS} {l : List (Nat × List UInt8)} (h : st.Ok) (hl : ∀ w ∈ l, w.1 < st.data.length ∧ w.2.length ≤ 64) : (after st l).Ok :=
  ⟨h.dlen, h.n, fun w hw => by
    rcases List.mem_append.1 hw with hw | hw
    · exact h.wlen w hw
    · obtain ⟨u, hu, rfl⟩ := List.mem_map.1 hw
      obtain ⟨h1, h2⟩ := hl u (List.mem_of_mem_take hu)
      exact ⟨length_pad h2, h1⟩⟩
end Go.Proofs.Ytejbbpofamfhiaa
