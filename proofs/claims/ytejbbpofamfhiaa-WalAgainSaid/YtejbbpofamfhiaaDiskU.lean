/- The disk's functions, one contract each for whatever is handed in; and the tests' first part (fit). -/
import Derived.Test.YtejbbpofamfhiaaDisk
namespace Go.Proofs.Ytejbbpofamfhiaa
open Go Go.SL
set_option linter.unusedVariables false
set_option linter.unusedSimpArgs false

theorem Down_to {p : Nat} {st : DS} {b : Bool} (h : st.down = b) : FSpec Try.prog 26 [ptr p] [DiskAt p st] (fun v As => v = .bool b ∧ As = [DiskAt p st]) := h ▸ Down_spec p st
theorem Write_spec (p : Nat) (st : DS) (A : Asn) (at_ : Int) (v : Value) (bs : List UInt8) (hb : ByR A v bs) (hw : st.wait.length ≤ 1000000) (hc : 0 ≤ st.count ∧ st.count ≤ 1000000000) (hl : 0 ≤ st.left ∧ st.left < 9223372036854775808) :
    FSpec Try.prog 18 [ptr p, .int .i64 at_, v] [DiskAt p st, A] (fun r As => r = .int .i64 (st.write at_ bs).1 ∧ As = [DiskAt p (st.write at_ bs).2, A]) := by
  unfold DS.write
  by_cases h : at_ < 0 ∨ st.data.length ≤ at_ ∨ 64 < bs.length
  · rw [if_pos h]; exact Write_bad p st A at_ v bs hb h
  · rw [if_neg h]
    have h1 : ¬ at_ < 0 := fun q => h (.inl q)
    have h2 : ¬ (st.data.length : Int) ≤ at_ := fun q => h (.inr (.inl q))
    have h3 : ¬ (64 : Int) < bs.length := fun q => h (.inr (.inr (by omega)))
    by_cases hd : st.down = true
    · rw [if_pos hd]; exact Write_down p st A at_ v bs hb h1 h2 h3 hd
    · rw [if_neg hd]; exact Write_ok p st A at_ v bs hb h1 h2 h3 (by simpa using hd) hw hc hl
theorem Write_to {p : Nat} {st st' : DS} {A : Asn} {at_ r : Int} {v : Value} {bs : List UInt8} (h : st.write at_ bs = (r, st')) (hb : ByR A v bs) (hw : st.wait.length ≤ 1000000) (hc : 0 ≤ st.count ∧ st.count ≤ 1000000000) (hl : 0 ≤ st.left ∧ st.left < 9223372036854775808) :
    FSpec Try.prog 18 [ptr p, .int .i64 at_, v] [DiskAt p st, A] (fun u As => u = .int .i64 r ∧ As = [DiskAt p st', A]) := by
  have := Write_spec p st A at_ v bs hb hw hc hl
  rwa [h] at this
def DS.flushE (st : DS) : Int × DS := if st.down then (4, st) else (0, st.flush)
theorem Flush_spec (p : Nat) (st : DS) (hok : st.Ok) (hw : st.wait.length ≤ 1000000) : FSpec Try.prog 23 [ptr p] [DiskAt p st] (fun v As => v = .int .i64 st.flushE.1 ∧ As = [DiskAt p st.flushE.2]) := by
  unfold DS.flushE
  by_cases hd : st.down = true
  · rw [if_pos hd]; exact Flush_down p st hd
  · rw [if_neg hd]; exact Flush_ok p st hok hw (by simpa using hd)
theorem Flush_to {p : Nat} {st st' : DS} {r : Int} (h : st.flushE = (r, st')) (hok : st.Ok) (hw : st.wait.length ≤ 1000000) : FSpec Try.prog 23 [ptr p] [DiskAt p st] (fun v As => v = .int .i64 r ∧ As = [DiskAt p st']) := by
  have := Flush_spec p st hok hw
  rwa [h] at this

theorem write_fine {st : DS} {at_ : Int} {bs : List UInt8} (h1 : 0 ≤ at_) (h2 : at_ < st.data.length) (h3 : bs.length ≤ 64) (hd : st.down = false) :
    st.write at_ bs = (0, { st with wait := st.wait ++ [(at_.toNat, pad 64 bs)], count := st.count + 1, left := if st.armed then st.left - 1 else st.left }) := by
  unfold DS.write
  rw [if_neg (by omega), if_neg (by simp [hd])]
theorem write_sunk {st : DS} {at_ : Int} {bs : List UInt8} (h1 : 0 ≤ at_) (h2 : at_ < st.data.length) (h3 : bs.length ≤ 64) (hd : st.down = true) : st.write at_ bs = (4, st) := by
  unfold DS.write
  rw [if_neg (by omega), if_pos hd]
theorem write_off {st : DS} {at_ : Int} {bs : List UInt8} (h : at_ < 0 ∨ st.data.length ≤ at_ ∨ 64 < bs.length) : st.write at_ bs = (5, st) := by
  unfold DS.write
  rw [if_pos h]
/-! ## what stays well formed -/
theorem DS.new_ok {n : Nat} (h : n ≤ 4096) : (DS.new n).Ok := ⟨fun s hs => by rw [List.eq_of_mem_replicate hs]; simp, by simpa [DS.new] using h, fun w hw => by simp [DS.new] at hw⟩
theorem DS.write_ok {st : DS} (h : st.Ok) (at_ : Int) (bs : List UInt8) : (st.write at_ bs).2.Ok := by
  unfold DS.write
  split
  · exact h
  · rename_i h1
    split
    · exact h
    · refine ⟨h.dlen, h.n, fun w hw => ?_⟩
      rcases List.mem_append.1 hw with hw | hw
      · exact h.wlen w hw
      · have hw' : w = (at_.toNat, pad 64 bs) := by simpa using hw
        subst hw'
        have h2 : ¬ at_ < 0 := fun q => h1 (.inl q)
        have h3 : ¬ (st.data.length : Int) ≤ at_ := fun q => h1 (.inr (.inl q))
        have h4 : ¬ 64 < bs.length := fun q => h1 (.inr (.inr q))
        exact ⟨length_pad (by omega), by simp only; omega⟩
theorem DS.flush_ok {st : DS} (h : st.Ok) : st.flush.Ok :=
  ⟨putW_all _ _ (fun w hw => (h.wlen w hw).1) h.dlen, by simp only [DS.flush, putW_len]; exact h.n, fun w hw => by simp [DS.flush] at hw⟩
theorem DS.flushE_ok {st : DS} (h : st.Ok) : st.flushE.2.Ok := by
  unfold DS.flushE; split
  · exact h
  · exact DS.flush_ok h
theorem DS.crash_ok {st : DS} (h : st.Ok) (mask : Nat) (torn cut : Int) : (st.crash mask torn cut).Ok := by
  have hc := crashTo_ok (mask := mask) (torn := torn) (cut := cut) (l := st.wait) (d := st.data) h.wlen h.dlen
  exact ⟨hc.2, by simp only [DS.crash, hc.1]; exact h.n, fun w hw => by simp [DS.crash] at hw⟩
theorem DS.flush_len (st : DS) : st.flush.data.length = st.data.length := putW_len _ _
theorem DS.crash_len {st : DS} (h : st.Ok) (mask : Nat) (torn cut : Int) : (st.crash mask torn cut).data.length = st.data.length :=
  (crashTo_ok (mask := mask) (torn := torn) (cut := cut) (l := st.wait) (d := st.data) h.wlen h.dlen).1

/-! ## fit -/
theorem fit_spec : FSpec Try.prog 16 [] [] (fun v As => v = .bool true ∧ As = []) := by
  have hwr : (DS.new 2).write 1 [1, 2, 3, 4, 5] = (0, { DS.new 2 with wait := [(1, pad 64 [1, 2, 3, 4, 5])], count := 1 }) := by rfl
  have hok : ({ DS.new 2 with wait := [(1, pad 64 [1, 2, 3, 4, 5])], count := 1 } : DS).Ok := by
    have := DS.write_ok (DS.new_ok (n := 2) (by decide)) 1 [1, 2, 3, 4, 5]
    rwa [hwr] at this
  have hok2 := DS.crash_ok hok 1 0 3
  have hrd : (({ DS.new 2 with wait := [(1, pad 64 [1, 2, 3, 4, 5])], count := 1 } : DS).crash 1 0 3).read 1 = [1, 2, 3] ++ List.replicate 61 0 := by decide +kernel
  refine FSpec.intro Try.func16 rfl 39 Try.ntmps16 (Nat.le_of_ble_eq_true rfl) fun w0 F => ?_
  show CW _ _ _ _ _ _ (F)
  repeat (first | refine CW.seq ?_ | refine PW.then_ ?_ | refine PW.then_to rfl ?_ | refine CW.block ?_ | refine CW.skip ?_ | refine CW.ret ?_ | refine PW.then_ret ?_ | refine PW.block_ret ?_ | refine Cut.ret ?_ | refine Rnd.ret ?_ | refine PW.block_normal ?_ | refine CW.exit ?_ | refine PW.then_exit ?_ | refine PW.block_hit ?_ | refine PW.block_miss rfl ?_ | refine Cut.exit ?_ | refine Rnd.exit ?_ | refine CW.scope ?_ | refine CW.label ?_ | refine PW.scope_normal ?_ | refine PW.scope_ret ?_ | refine PW.scope_exit ?_)
  refine CW.region ?_
  refine L1 (ps_assign rfl).os ?_
  refine LW.nil ?_
  repeat (first | refine CW.seq ?_ | refine PW.then_ ?_ | refine PW.then_to rfl ?_ | refine CW.block ?_ | refine CW.skip ?_ | refine CW.ret ?_ | refine PW.then_ret ?_ | refine PW.block_ret ?_ | refine Cut.ret ?_ | refine Rnd.ret ?_ | refine PW.block_normal ?_ | refine CW.exit ?_ | refine PW.then_exit ?_ | refine PW.block_hit ?_ | refine PW.block_miss rfl ?_ | refine Cut.exit ?_ | refine Rnd.exit ?_ | refine CW.scope ?_ | refine CW.label ?_ | refine PW.scope_normal ?_ | refine PW.scope_ret ?_ | refine PW.scope_exit ?_)
  refine CW.region ?_
  refine LE (os_call (New_yes 2 (by decide) (by decide)) Try.func17 (by decide +kernel) rfl rfl (List.Perm.refl _)) ?_
  rintro _ _ ⟨_, ⟨p, rfl, rfl⟩, rfl⟩
  refine L1 (ps_assign rfl).os ?_
  refine LW.nil ?_
  repeat (first | refine CW.seq ?_ | refine PW.then_ ?_ | refine PW.then_to rfl ?_ | refine CW.block ?_ | refine CW.skip ?_ | refine CW.ret ?_ | refine PW.then_ret ?_ | refine PW.block_ret ?_ | refine Cut.ret ?_ | refine Rnd.ret ?_ | refine PW.block_normal ?_ | refine CW.exit ?_ | refine PW.then_exit ?_ | refine PW.block_hit ?_ | refine PW.block_miss rfl ?_ | refine Cut.exit ?_ | refine Rnd.exit ?_ | refine CW.scope ?_ | refine CW.label ?_ | refine PW.scope_normal ?_ | refine PW.scope_ret ?_ | refine PW.scope_exit ?_)
  refine CW.region ?_
  refine L1 (ps_move rfl).os ?_
  refine LE (os_bslv (vs := [.int .u8 1, .int .u8 2, .int .u8 3, .int .u8 4, .int .u8 5]) T.un27 T.ti5 (by rfl) (by rfl) rfl (by simp [Value.oneCell']) (by decide) (by decide)) ?_
  rintro _ _ ⟨b7, rfl, rfl⟩
  refine LE (os_call (pre := [_, _]) (Write_to hwr (ByR.cb (b := b7) (o := 0) (cap := 5) (t := 5) (cs := [.int .u8 1, .int .u8 2, .int .u8 3, .int .u8 4, .int .u8 5]) rfl rfl (by decide)) (by decide) (by decide) (by decide)) Try.func18 (by decide +kernel) rfl rfl (List.Perm.swap _ _ _)) ?_
  rintro _ _ ⟨_, ⟨rfl, rfl⟩, rfl⟩
  refine L1 (ps_assign rfl).os ?_
  refine LW.nil ?_
  repeat (first | refine CW.seq ?_ | refine PW.then_ ?_ | refine PW.then_to rfl ?_ | refine CW.block ?_ | refine CW.skip ?_ | refine CW.ret ?_ | refine PW.then_ret ?_ | refine PW.block_ret ?_ | refine Cut.ret ?_ | refine Rnd.ret ?_ | refine PW.block_normal ?_ | refine CW.exit ?_ | refine PW.then_exit ?_ | refine PW.block_hit ?_ | refine PW.block_miss rfl ?_ | refine Cut.exit ?_ | refine Rnd.exit ?_ | refine CW.scope ?_ | refine CW.label ?_ | refine PW.scope_normal ?_ | refine PW.scope_ret ?_ | refine PW.scope_exit ?_)
  refine CW.region ?_
  refine L1 (ps_move rfl).os ?_
  refine LE (os_call (Crash_spec p _ hok (by decide) 1 (by decide) 0 3) Try.func19 (by decide +kernel) rfl rfl (List.Perm.refl _)) ?_
  rintro _ _ ⟨_, ⟨rfl, rfl⟩, rfl⟩
  refine LW.nil ?_
  repeat (first | refine CW.seq ?_ | refine PW.then_ ?_ | refine PW.then_to rfl ?_ | refine CW.block ?_ | refine CW.skip ?_ | refine CW.ret ?_ | refine PW.then_ret ?_ | refine PW.block_ret ?_ | refine Cut.ret ?_ | refine Rnd.ret ?_ | refine PW.block_normal ?_ | refine CW.exit ?_ | refine PW.then_exit ?_ | refine PW.block_hit ?_ | refine PW.block_miss rfl ?_ | refine Cut.exit ?_ | refine Rnd.exit ?_ | refine CW.scope ?_ | refine CW.label ?_ | refine PW.scope_normal ?_ | refine PW.scope_ret ?_ | refine PW.scope_exit ?_)
  refine CW.region ?_
  refine L1 (ps_move rfl).os ?_
  refine LE (os_call (Read_ok p _ hok2 (by decide) 1 (by decide)) Try.func20 (by decide +kernel) rfl rfl (List.Perm.refl _)) ?_
  rintro _ _ ⟨_, ⟨b, rfl, rfl⟩, rfl⟩
  refine L1 (ps_move rfl).os ?_
  refine L1 (ps_extract rfl rfl).os ?_
  refine L1 (ps_extract rfl rfl).os ?_
  refine L1 (ps_assign rfl).os ?_
  refine L1 (ps_assign rfl).os ?_
  refine LW.nil ?_
  rw [hrd]
  repeat (first | refine CW.seq ?_ | refine PW.then_ ?_ | refine PW.then_to rfl ?_ | refine CW.block ?_ | refine CW.skip ?_ | refine CW.ret ?_ | refine PW.then_ret ?_ | refine PW.block_ret ?_ | refine Cut.ret ?_ | refine Rnd.ret ?_ | refine PW.block_normal ?_ | refine CW.exit ?_ | refine PW.then_exit ?_ | refine PW.block_hit ?_ | refine PW.block_miss rfl ?_ | refine Cut.exit ?_ | refine Rnd.exit ?_ | refine CW.scope ?_ | refine CW.label ?_ | refine PW.scope_normal ?_ | refine PW.scope_ret ?_ | refine PW.scope_exit ?_)
  refine CW.region ?_
  refine L1 (ps_move rfl).os ?_
  refine L1 (ps_t (ps_eql rfl rfl) (rfl)).os ?_
  refine L1 (ps_move rfl).os ?_
  refine LG1 ?_ (ps_move rfl).os ?_
  · exact rfl
  refine LG1 ?_ (ps_t (ps_eql rfl rfl) (rfl)).os ?_
  · exact rfl
  refine L1 (ps_pick_t rfl rfl).os ?_
  refine L1 (ps_move rfl).os ?_
  refine LG1 ?_ (ps_move rfl).os ?_
  · exact rfl
  refine LG1 ?_ (ps_len_sl T.un27 rfl).os ?_
  · exact rfl
  refine LG1 ?_ (ps_t (ps_eql rfl rfl) (rfl)).os ?_
  · exact rfl
  refine L1 (ps_pick_t rfl rfl).os ?_
  refine L1 (ps_move rfl).os ?_
  refine LG1 ?_ (ps_move rfl).os ?_
  · exact rfl
  refine LG1 ?_ (ps_ia_slice T.un27 T.sz5 rfl rfl (by omega) (by omega)).os ?_
  · exact rfl
  refine LG1 ?_ (os_load1 (by repeat (first | exact pk_head _ _ | apply pk_tail)) T.ag5 rfl (by rfl)) ?_
  · exact rfl
  refine LG1 ?_ (ps_t (ps_eql rfl rfl) (rfl)).os ?_
  · exact rfl
  refine L1 (ps_pick_t rfl rfl).os ?_
  refine L1 (ps_move rfl).os ?_
  refine LG1 ?_ (ps_move rfl).os ?_
  · exact rfl
  refine LG1 ?_ (ps_ia_slice T.un27 T.sz5 rfl rfl (by omega) (by omega)).os ?_
  · exact rfl
  refine LG1 ?_ (os_load1 (by repeat (first | exact pk_head _ _ | apply pk_tail)) T.ag5 rfl (by rfl)) ?_
  · exact rfl
  refine LG1 ?_ (ps_t (ps_eql rfl rfl) (rfl)).os ?_
  · exact rfl
  refine L1 (ps_pick_t rfl rfl).os ?_
  refine L1 (ps_assign rfl).os ?_
  refine LW.nil ?_
  repeat (first | refine CW.seq ?_ | refine PW.then_ ?_ | refine PW.then_to rfl ?_ | refine CW.block ?_ | refine CW.skip ?_ | refine CW.ret ?_ | refine PW.then_ret ?_ | refine PW.block_ret ?_ | refine Cut.ret ?_ | refine Rnd.ret ?_ | refine PW.block_normal ?_ | refine CW.exit ?_ | refine PW.then_exit ?_ | refine PW.block_hit ?_ | refine PW.block_miss rfl ?_ | refine Cut.exit ?_ | refine Rnd.exit ?_ | refine CW.scope ?_ | refine CW.label ?_ | refine PW.scope_normal ?_ | refine PW.scope_ret ?_ | refine PW.scope_exit ?_)
  exact Fin.ret1 (v := .bool true) rfl [] rfl ⟨rfl, rfl⟩ (by repeat (first | exact Ent.refl _ | (apply Ent.cons; · repeat (first | exact pk_head _ _ | apply pk_tail)) | apply Ent.skip))
end Go.Proofs.Ytejbbpofamfhiaa
