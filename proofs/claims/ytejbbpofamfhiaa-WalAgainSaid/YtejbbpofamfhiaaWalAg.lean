/- The plain law of WalAgain: what stays of a disk, whatever is done behind its log's end. -/
import Derived.Test.YtejbbpofamfhiaaWalDeeds
namespace Go.Proofs.Ytejbbpofamfhiaa
open Go Go.SL
set_option linter.unusedVariables false
set_option linter.unusedSimpArgs false

structure JunkI (rs : Rs) (B : Nat) (st : DS) : Prop where
  ok : st.Ok
  len : st.data.length = 64
  good : ∀ r ∈ rs, GoodR r
  pre : st.data.take (endR rs) = encAll 1 rs
  zero : endR rs < 64 → st.data.getD (endR rs) [] = Z64
  fits : endR rs ≤ 64
  num : rs.length ≤ 100
  wait : ∀ w ∈ st.wait, endR rs < w.1
  wl : st.wait.length ≤ B
  cnt : 0 ≤ st.count ∧ st.count ≤ (B : Int)
  lft : 0 ≤ st.left ∧ st.left ≤ 16
theorem JunkI.of {rs : Rs} {B : Nat} {st : DS} (h : LogD st rs) (hl : st.data.length = 64) (hn : rs.length ≤ 100) (hc : st.count ≤ (B : Int)) (hf : st.left ≤ 16) : JunkI rs B st :=
  ⟨h.ok, hl, h.log.good, h.log.take, fun h1 => h.log.zero _ (Nat.le_refl _) (by rw [hl]; exact h1), by have := h.log.le; rw [hl] at this; exact this, hn, fun w hw => (by rw [h.wait] at hw; cases hw), by rw [h.wait]; exact Nat.zero_le _, ⟨h.cnt.1, hc⟩, ⟨h.lft.1, hf⟩⟩
theorem JunkI.none {rs : Rs} {B : Nat} {st : DS} (h : JunkI rs B st) (n : Nat) : recAt st.data (endR rs) n = none := zero_end fun h1 => h.zero (by rw [h.len] at h1; exact h1)
theorem JunkI.write {rs : Rs} {B : Nat} {st : DS} (h : JunkI rs B st) (a : Nat) (ha : endR rs < a) (bs : List UInt8) : JunkI rs (B + 1) (st.write (a : Int) bs).2 := by
  have q1 := write_data st (a : Int) bs
  have q2 := DS.write_ok h.ok (a : Int) bs
  have q3 := write_wait st a bs
  have q4 := write_count st (a : Int) bs
  have q5 := write_left st (a : Int) bs h.lft.1
  have q6 := write_le st a bs
  refine ⟨q2, by rw [q1]; exact h.len, h.good, by rw [q1]; exact h.pre, by rw [q1]; exact h.zero, h.fits, h.num, fun w hw => ?_, by have := h.wl; omega, by have := h.cnt; omega, by have := h.lft; omega⟩
  rcases q3 with e | e <;> rw [e] at hw
  · exact h.wait w hw
  · rcases List.mem_append.1 hw with hw | hw
    · exact h.wait w hw
    · rw [List.mem_singleton] at hw; subst hw; exact ha
/-- The sectors up to the log's end stay. -/
theorem JunkI.move {rs : Rs} {B B' : Nat} {st st' : DS} (h : JunkI rs B st) (hok : st'.Ok) (hl : st'.data.length = st.data.length) (hs : ∀ a, a ≤ endR rs → st'.data.getD a [] = st.data.getD a []) (hw : ∀ w ∈ st'.wait, endR rs < w.1) (hwl : st'.wait.length ≤ B') (hc : 0 ≤ st'.count ∧ st'.count ≤ (B' : Int)) (hf : 0 ≤ st'.left ∧ st'.left ≤ 16) : JunkI rs B' st' :=
  ⟨hok, by rw [hl]; exact h.len, h.good, (take_same hl fun a ha => hs a (Nat.le_of_lt ha)).trans h.pre, fun h1 => (hs _ (Nat.le_refl _)).trans (h.zero h1), h.fits, h.num, hw, hwl, hc, hf⟩
theorem JunkI.flush {rs : Rs} {B : Nat} {st : DS} (h : JunkI rs B st) : JunkI rs B st.flush := by
  refine h.move ⟨putW_all _ _ (fun w hw => (h.ok.wlen w hw).1) h.ok.dlen, by show (st.wait.foldl putW st.data).length ≤ 4096; rw [putW_len]; exact h.ok.n, fun w hw => by cases hw⟩ (putW_len _ _) (fun a ha => putW_out _ _ _ fun w hw => by have := h.wait w hw; omega) (fun w hw => by cases hw) (Nat.zero_le _) h.cnt h.lft
theorem JunkI.crash {rs : Rs} {B : Nat} {st : DS} (h : JunkI rs B st) (mask : Nat) (torn cut : Int) : JunkI rs B (st.crash mask torn cut) :=
  h.move (DS.crash_ok h.ok mask torn cut) (crashTo_len _ _) (fun a ha => crash_out fun w hw => by have := h.wait w hw; omega) (fun w hw => by cases hw) (Nat.zero_le _) h.cnt h.lft
theorem JunkI.arm {rs : Rs} {B : Nat} {st : DS} (h : JunkI rs B st) (n : Int) (h0 : 0 ≤ n) (h1 : n ≤ 16) : JunkI rs B { st with armed := true, left := n } :=
  h.move ⟨h.ok.dlen, h.ok.n, h.ok.wlen⟩ rfl (fun a _ => rfl) h.wait h.wl h.cnt ⟨h0, h1⟩
theorem JunkI.wiped {rs : Rs} {B : Nat} {st : DS} (h : JunkI rs B st) (hw : st.wait = []) : JunkI rs (B + 64) (after st (wipes st.data (endR rs))) := by
  have hm : ∀ w ∈ wipes st.data (endR rs), endR rs < w.1 ∧ w.1 < 64 := fun w hx => by
    obtain ⟨h1, h2, _, h4⟩ := wipesF_mem _ _ w hx
    have hlt : w.1 < 64 := by have := h.len; omega
    have hne : w.1 ≠ endR rs := fun e => by rw [e] at h4 hlt; exact h4 (h.zero hlt)
    omega
  have hlen := wipesF_len (V := st.data) (st.data.length - endR rs) (endR rs)
  have hlen2 : (wipes st.data (endR rs)).length ≤ 64 := by have := h.len; unfold wipes; omega
  have ht : takes st (wipes st.data (endR rs)).length ≤ 64 := by unfold takes; split <;> omega
  refine h.move (after_ok h.ok wipes_fit) rfl (fun a _ => rfl) (fun w hx => ?_) ?_ ?_ ?_
  · show endR rs < w.1
    have hx' : w ∈ st.wait ++ ((wipes st.data (endR rs)).take (takes st (wipes st.data (endR rs)).length)).map pw64 := hx
    rw [hw, List.nil_append] at hx'
    obtain ⟨u, hu, rfl⟩ := List.mem_map.1 hx'
    exact (hm u (List.mem_of_mem_take hu)).1
  · show (st.wait ++ ((wipes st.data (endR rs)).take (takes st (wipes st.data (endR rs)).length)).map pw64).length ≤ _
    rw [hw, List.nil_append, List.length_map, List.length_take]; omega
  · have := h.cnt
    show 0 ≤ st.count + (takes st (wipes st.data (endR rs)).length : Nat) ∧ st.count + (takes st (wipes st.data (endR rs)).length : Nat) ≤ _
    omega
  · have := h.lft
    have ht2 : st.armed = true → (takes st (wipes st.data (endR rs)).length : Int) ≤ st.left := fun ha => by
      unfold takes; rw [ha, if_pos rfl]; omega
    show 0 ≤ (if st.armed then st.left - (takes st (wipes st.data (endR rs)).length : Nat) else st.left) ∧ (if st.armed then st.left - (takes st (wipes st.data (endR rs)).length : Nat) else st.left) ≤ 16
    split
    · rename_i ha
      have := ht2 ha
      omega
    · exact this
/-- Open on such a disk, whatever comes of it. -/
theorem Junk_open (p : Nat) {rs : Rs} {B : Nat} {st : DS} (h : JunkI rs B st) (hw : st.wait = []) (hB : B ≤ 1000000) : FSpec Try.prog 29 [ptr p] [DiskAt p st] (fun v As => ∃ st2, JunkI rs (B + 64) st2 ∧ As = [DiskAt p st2]) := by
  have hcn := h.cnt
  have hlf := h.lft
  have hR : recsA st.data 0 0 = rs.map (·.2) := by
    have e := split_at h.pre
    rw [e]
    exact recs_log h.good (by have := h.num; unfold G32; omega) (by rw [← e]; exact h.none _)
  have hws := writes_is (wipes st.data (endR rs)) st h.lft.1 wipes_fit
  have hj := h.wiped hw
  have hs := Open_spec p st h.ok hw ⟨hcn.1, by omega⟩ ⟨hlf.1, by omega⟩
  rw [hR, show endOf (rs.map (·.2)) = endR rs from rfl, hws] at hs
  refine hs.mono (Ent.refl _) ?_
  rintro v As (⟨_, rfl, rfl⟩ | ⟨_, _, rfl, rfl⟩ | ⟨_, _, w, es, q, d, e1, e2, rfl, rfl⟩)
  · exact ⟨_, ⟨_, hj, rfl⟩, Ent.refl _⟩
  · exact ⟨_, ⟨_, hj, rfl⟩, Ent.refl _⟩
  · exact ⟨_, ⟨_, hj.flush, rfl⟩, Ent.skip (Ent.skip (Ent.skip (Ent.refl _)))⟩
end Go.Proofs.Ytejbbpofamfhiaa
