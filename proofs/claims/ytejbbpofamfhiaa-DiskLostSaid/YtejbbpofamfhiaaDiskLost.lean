/- The law DiskLost: what was not sure, and was not kept, is as it was; what was sure stays: it answers true for every list of calls and every mask (no condition). -/
import Derived.Test.YtejbbpofamfhiaaDiskLaw
import Derived.Test.YtejbbpofamfhiaaRows
namespace Go.Proofs.Ytejbbpofamfhiaa
open Go Go.SL
set_option linter.unusedVariables false
set_option linter.unusedSimpArgs false

def keep (mask : Nat) (w : List (Nat × List UInt8)) : List (Nat × List UInt8) := (w.zipIdx.filter fun x => decide (mask / 2 ^ (x.2 % 64) % 2 ≠ 0)).map Prod.fst
theorem keep_snoc (mask : Nat) (w : List (Nat × List UInt8)) (x : Nat × List UInt8) : keep mask (w ++ [x]) = keep mask w ++ if mask / 2 ^ (w.length % 64) % 2 = 0 then [] else [x] := by
  unfold keep
  rw [List.zipIdx_append, List.filter_append, List.map_append]
  congr 1
  by_cases h : mask / 2 ^ (w.length % 64) % 2 = 0
  · simp [h]
  · have h1 : mask / 2 ^ (w.length % 64) % 2 = 1 := by omega
    simp [h1, List.filter]
theorem keep_len (mask : Nat) (w : List (Nat × List UInt8)) : (keep mask w).length ≤ w.length := by
  unfold keep
  rw [List.length_map]
  exact Nat.le_trans (List.length_filter_le _ _) (by simp)
theorem keep_mem {mask : Nat} {w : List (Nat × List UInt8)} {x : Nat × List UInt8} (h : x ∈ keep mask w) : x ∈ w := by
  unfold keep at h
  obtain ⟨y, hy, rfl⟩ := List.mem_map.1 h
  exact List.fst_mem_of_mem_zipIdx (List.mem_filter.1 hy).1

def lostW (l : List CallS) (i : Nat) : List (Nat × List UInt8) := (l.take i).map (wOf 8)
def lostD (l : List CallS) (i : Nat) : DS := { DS.new 8 with wait := lostW l i, count := i }
def lostM (mask : Nat) (l : List CallS) (i : Nat) : DS := { DS.new 8 with wait := keep mask (lostW l i), count := (keep mask (lostW l i)).length }
theorem lostW_len (l : List CallS) {i : Nat} (h : i ≤ l.length) : (lostW l i).length = i := by simp [lostW, h]
theorem lostW_succ (l : List CallS) {i : Nat} (h : i < l.length) : lostW l (i + 1) = lostW l i ++ [wOf 8 l[i]] := by
  unfold lostW
  rw [List.take_succ_eq_append_getElem h, List.map_append]; rfl
theorem lostW_ok {l : List CallS} {i : Nat} (hs : ∀ c ∈ l.take i, c.data.length ≤ 64) : ∀ w ∈ lostW l i, w.2.length = 64 ∧ w.1 < 8 := by
  intro w hw
  obtain ⟨c, hc, rfl⟩ := List.mem_map.1 hw
  refine ⟨length_pad (hs c hc), ?_⟩
  show (c.at_ % (8 : Nat)).toNat < 8
  omega
theorem new8 : (DS.new 8).data.length = 8 := by simp [DS.new]
theorem lostD_ok {l : List CallS} {i : Nat} (hs : ∀ c ∈ l.take i, c.data.length ≤ 64) : (lostD l i).Ok := by
  have h0 := DS.new_ok (n := 8) (by decide)
  exact ⟨h0.dlen, h0.n, fun w hw => by
    have := lostW_ok hs w hw
    exact ⟨this.1, by show w.1 < (DS.new 8).data.length; rw [new8]; exact this.2⟩⟩
theorem lostM_ok {mask : Nat} {l : List CallS} {i : Nat} (hs : ∀ c ∈ l.take i, c.data.length ≤ 64) : (lostM mask l i).Ok := by
  have h0 := DS.new_ok (n := 8) (by decide)
  exact ⟨h0.dlen, h0.n, fun w hw => by
    have := lostW_ok hs w (keep_mem hw)
    exact ⟨this.1, by show w.1 < (DS.new 8).data.length; rw [new8]; exact this.2⟩⟩
theorem lostD_write {l : List CallS} {i : Nat} (h : i < l.length) (hc : l[i].data.length ≤ 64) : (lostD l i).write (l[i].at_ % 8) l[i].data = (0, lostD l (i + 1)) := by
  have h1 : 0 ≤ l[i].at_ % 8 := by omega
  have h2 : l[i].at_ % 8 < (lostD l i).data.length := by
    show l[i].at_ % 8 < ((DS.new 8).data.length : Nat)
    rw [new8]; omega
  rw [write_fine h1 h2 hc rfl]
  unfold lostD
  rw [lostW_succ l h]
  simp [wOf, DS.new]
theorem lostM_write {mask : Nat} {l : List CallS} {i : Nat} (h : i < l.length) (hc : l[i].data.length ≤ 64) (hb : mask / 2 ^ (i % 64) % 2 = 1) : (lostM mask l i).write (l[i].at_ % 8) l[i].data = (0, lostM mask l (i + 1)) := by
  have h1 : 0 ≤ l[i].at_ % 8 := by omega
  have h2 : l[i].at_ % 8 < (lostM mask l i).data.length := by
    show l[i].at_ % 8 < ((DS.new 8).data.length : Nat)
    rw [new8]; omega
  have hb' : ¬ mask / 2 ^ (i % 64) % 2 = 0 := by omega
  rw [write_fine h1 h2 hc rfl]
  unfold lostM
  rw [lostW_succ l h, keep_snoc, lostW_len l (Nat.le_of_lt h), if_neg hb']
  simp [wOf, DS.new]
theorem lostM_skip {mask : Nat} {l : List CallS} {i : Nat} (h : i < l.length) (hb : ¬ mask / 2 ^ (i % 64) % 2 = 1) : lostM mask l (i + 1) = lostM mask l i := by
  unfold lostM
  rw [lostW_succ l h, keep_snoc, lostW_len l (Nat.le_of_lt h), if_pos (by omega), List.append_nil]
theorem lost_read {mask : Nat} {l : List CallS} {i k : Nat} (hs : ∀ c ∈ l.take i, c.data.length ≤ 64) : ((lostD l i).crash mask (-1) 0).read k = (lostM mask l i).read k := by
  have hok := lostW_ok hs
  have h := crash_read (mask := mask) (k := k) (lostW l i).zipIdx (DS.new 8).data (fun x hx => by
    have := hok x.1 (List.fst_mem_of_mem_zipIdx hx)
    rw [new8]; exact this) (DS.new_ok (n := 8) (by decide)).dlen
  exact h

theorem DiskLost_law (W : World) (v : Value) (l : List CallS) (hv : CallsR (bag (blks W)) v l) (m0 : Int) (hm : 0 ≤ m0 ∧ m0 < 18446744073709551616) : LawOf Try.prog 3 [v, .int .u64 m0] W := by
  obtain ⟨pv, capv, rfl, hcap1, hcap2, hpv⟩ := hv.len
  obtain ⟨mask, rfl⟩ := Int.eq_ofNat_of_zero_le hm.1
  have hmask : mask < 18446744073709551616 := by omega
  have hcapm : l.length < 9223372036854775808 := by unfold maxLen at hcap2; omega
  refine FSpec.intro Try.func3 rfl 86 Try.ntmps3 (Nat.le_of_ble_eq_true rfl) fun w0 F => ?_
  show CW _ _ _ _ _ _ (_ :: F)
  repeat (first | refine CW.seq ?_ | refine PW.then_ ?_ | refine CW.block ?_ | refine CW.skip ?_ | refine CW.ret ?_ | refine PW.then_ret ?_ | refine PW.block_ret ?_ | refine Cut.ret ?_ | refine Rnd.ret ?_ | refine PW.block_normal ?_ | refine CW.exit ?_ | refine PW.then_exit ?_ | refine PW.block_hit ?_ | refine PW.block_miss rfl ?_ | refine Cut.exit ?_ | refine Rnd.exit ?_)
  refine CW.region ?_
  refine L1 (ps_assign rfl).os ?_
  refine LW.nil ?_
  repeat (first | refine CW.seq ?_ | refine PW.then_ ?_ | refine CW.block ?_ | refine CW.skip ?_ | refine CW.ret ?_ | refine PW.then_ret ?_ | refine PW.block_ret ?_ | refine Cut.ret ?_ | refine Rnd.ret ?_ | refine PW.block_normal ?_ | refine CW.exit ?_ | refine PW.then_exit ?_ | refine PW.block_hit ?_ | refine PW.block_miss rfl ?_ | refine Cut.exit ?_ | refine Rnd.exit ?_)
  refine CW.region ?_
  refine LE (os_call (pre := []) fit_spec Try.func16 (by decide +kernel) rfl rfl (List.Perm.refl _)) ?_
  rintro _ _ ⟨_, ⟨rfl, rfl⟩, rfl⟩
  refine L1 (ps_not rfl).os ?_
  refine LW.nil ?_
  repeat (first | refine CW.seq ?_ | refine PW.then_ ?_ | refine CW.block ?_ | refine CW.skip ?_ | refine CW.ret ?_ | refine PW.then_ret ?_ | refine PW.block_ret ?_ | refine Cut.ret ?_ | refine Rnd.ret ?_ | refine PW.block_normal ?_ | refine CW.exit ?_ | refine PW.then_exit ?_ | refine PW.block_hit ?_ | refine PW.block_miss rfl ?_ | refine Cut.exit ?_ | refine Rnd.exit ?_)
  refine CW.cond_false rfl ?_
  repeat (first | refine CW.seq ?_ | refine PW.then_ ?_ | refine CW.block ?_ | refine CW.skip ?_ | refine CW.ret ?_ | refine PW.then_ret ?_ | refine PW.block_ret ?_ | refine Cut.ret ?_ | refine Rnd.ret ?_ | refine PW.block_normal ?_ | refine CW.exit ?_ | refine PW.then_exit ?_ | refine PW.block_hit ?_ | refine PW.block_miss rfl ?_ | refine Cut.exit ?_ | refine Rnd.exit ?_)
  by_cases hlen : (64 : Int) < l.length
  · refine CW.region ?_
    refine L1 (ps_move rfl).os ?_
    refine L1 (ps_len_sl T.un22 rfl).os ?_
    refine L1 (ps_t (ps_gtr rfl rfl) (hlen)).os ?_
    refine LW.nil ?_
    repeat (first | refine CW.seq ?_ | refine PW.then_ ?_ | refine CW.block ?_ | refine CW.skip ?_ | refine CW.ret ?_ | refine PW.then_ret ?_ | refine PW.block_ret ?_ | refine Cut.ret ?_ | refine Rnd.ret ?_ | refine PW.block_normal ?_ | refine CW.exit ?_ | refine PW.then_exit ?_ | refine PW.block_hit ?_ | refine PW.block_miss rfl ?_ | refine Cut.exit ?_ | refine Rnd.exit ?_)
    refine CW.cond_true rfl ?_
    repeat (first | refine CW.seq ?_ | refine PW.then_ ?_ | refine CW.block ?_ | refine CW.skip ?_ | refine CW.ret ?_ | refine PW.then_ret ?_ | refine PW.block_ret ?_ | refine Cut.ret ?_ | refine Rnd.ret ?_ | refine PW.block_normal ?_ | refine CW.exit ?_ | refine PW.then_exit ?_ | refine PW.block_hit ?_ | refine PW.block_miss rfl ?_ | refine Cut.exit ?_ | refine Rnd.exit ?_)
    refine CW.region ?_
    refine L1 (ps_assign rfl).os ?_
    refine LW.nil ?_
    repeat (first | refine CW.seq ?_ | refine PW.then_ ?_ | refine CW.block ?_ | refine CW.skip ?_ | refine CW.ret ?_ | refine PW.then_ret ?_ | refine PW.block_ret ?_ | refine Cut.ret ?_ | refine Rnd.ret ?_ | refine PW.block_normal ?_ | refine CW.exit ?_ | refine PW.then_exit ?_ | refine PW.block_hit ?_ | refine PW.block_miss rfl ?_ | refine Cut.exit ?_ | refine Rnd.exit ?_)
    exact Fin.ret1 (v := .bool true) rfl [bag (blks W)] rfl ⟨rfl, rfl⟩ (by repeat (first | exact Ent.refl _ | (apply Ent.cons; · repeat (first | exact pk_head _ _ | apply pk_tail)) | apply Ent.skip))
  have hlen64 : l.length ≤ 64 := by omega
  refine CW.region ?_
  refine L1 (ps_move rfl).os ?_
  refine L1 (ps_len_sl T.un22 rfl).os ?_
  refine L1 (ps_f (ps_gtr rfl rfl) (hlen)).os ?_
  refine LW.nil ?_
  repeat (first | refine CW.seq ?_ | refine PW.then_ ?_ | refine CW.block ?_ | refine CW.skip ?_ | refine CW.ret ?_ | refine PW.then_ret ?_ | refine PW.block_ret ?_ | refine Cut.ret ?_ | refine Rnd.ret ?_ | refine PW.block_normal ?_ | refine CW.exit ?_ | refine PW.then_exit ?_ | refine PW.block_hit ?_ | refine PW.block_miss rfl ?_ | refine Cut.exit ?_ | refine Rnd.exit ?_)
  refine CW.cond_false rfl ?_
  repeat (first | refine CW.seq ?_ | refine PW.then_ ?_ | refine CW.block ?_ | refine CW.skip ?_ | refine CW.ret ?_ | refine PW.then_ret ?_ | refine PW.block_ret ?_ | refine Cut.ret ?_ | refine Rnd.ret ?_ | refine PW.block_normal ?_ | refine CW.exit ?_ | refine PW.then_exit ?_ | refine PW.block_hit ?_ | refine PW.block_miss rfl ?_ | refine Cut.exit ?_ | refine Rnd.exit ?_)
  refine CW.region ?_
  refine LE (os_call (pre := []) (New_yes 8 (by decide) (by decide)) Try.func17 (by decide +kernel) rfl rfl (List.Perm.refl _)) ?_
  rintro _ _ ⟨_, ⟨p, rfl, rfl⟩, rfl⟩
  refine LE (os_call (pre := []) (New_yes 8 (by decide) (by decide)) Try.func17 (by decide +kernel) rfl rfl (List.Perm.refl _)) ?_
  rintro _ _ ⟨_, ⟨q, rfl, rfl⟩, rfl⟩
  refine L1 (ps_assign rfl).os ?_
  refine L1 (ps_assign rfl).os ?_
  refine LW.nil ?_
  repeat (first | refine CW.seq ?_ | refine PW.then_ ?_ | refine CW.block ?_ | refine CW.skip ?_ | refine CW.ret ?_ | refine PW.then_ret ?_ | refine PW.block_ret ?_ | refine Cut.ret ?_ | refine Rnd.ret ?_ | refine PW.block_normal ?_ | refine CW.exit ?_ | refine PW.then_exit ?_ | refine PW.block_hit ?_ | refine PW.block_miss rfl ?_ | refine Cut.exit ?_ | refine Rnd.exit ?_)
  refine CW.region ?_
  refine L1 (ps_move rfl).os ?_
  refine L1 (ps_len_sl T.un22 rfl).os ?_
  refine L1 (ps_move rfl).os ?_
  refine LW.nil ?_
  repeat (first | refine CW.seq ?_ | refine PW.then_ ?_ | refine CW.block ?_ | refine CW.skip ?_ | refine CW.ret ?_ | refine PW.then_ret ?_ | refine PW.block_ret ?_ | refine Cut.ret ?_ | refine Rnd.ret ?_ | refine PW.block_normal ?_ | refine CW.exit ?_ | refine PW.then_exit ?_ | refine PW.block_hit ?_ | refine PW.block_miss rfl ?_ | refine Cut.exit ?_ | refine Rnd.exit ?_)
  refine CW.loopM (α := Nat) [4, 7, 8, 23, 24, 25, 26, 27, 28, 29, 30, 31, 32, 33, 34, 35, 36, 37, 38, 39, 40, 41, 42, 43, 44, 45, 46, 47, 48, 49, 50, 51] (fun k i => i ≤ l.length ∧ k = l.length - i ∧ ∀ c ∈ l.take i, c.data.length ≤ 64) (fun i => [(23, .int .i64 i)])
    (fun i => DiskAt p (lostD l i) :: DiskAt q (lostM mask l i) :: bag (blks W) :: F) l.length 0 ⟨Nat.zero_le _, by simp, by simp⟩ ⟨rfl, trivial⟩ (by repeat (first | exact Ent.refl _ | (apply Ent.cons; · repeat (first | exact pk_head _ _ | apply pk_tail)) | apply Ent.skip)) ?_
  rintro k i g ⟨hi, hk, hs⟩
  repeat (first | refine CW.seq ?_ | refine PW.then_ ?_ | refine CW.block ?_ | refine CW.skip ?_ | refine CW.ret ?_ | refine PW.then_ret ?_ | refine PW.block_ret ?_ | refine Cut.ret ?_ | refine Rnd.ret ?_ | refine PW.block_normal ?_ | refine CW.exit ?_ | refine PW.then_exit ?_ | refine PW.block_hit ?_ | refine PW.block_miss rfl ?_ | refine Cut.exit ?_ | refine Rnd.exit ?_)
  by_cases hlt : i < l.length
  · refine CW.region ?_
    refine L1 (ps_t (ps_lss rfl rfl) (by omega)).os ?_
    refine LW.nil ?_
    repeat (first | refine CW.seq ?_ | refine PW.then_ ?_ | refine CW.block ?_ | refine CW.skip ?_ | refine CW.ret ?_ | refine PW.then_ret ?_ | refine PW.block_ret ?_ | refine Cut.ret ?_ | refine Rnd.ret ?_ | refine PW.block_normal ?_ | refine CW.exit ?_ | refine PW.then_exit ?_ | refine PW.block_hit ?_ | refine PW.block_miss rfl ?_ | refine Cut.exit ?_ | refine Rnd.exit ?_)
    refine CW.cond_true rfl ?_
    repeat (first | refine CW.seq ?_ | refine PW.then_ ?_ | refine CW.block ?_ | refine CW.skip ?_ | refine CW.ret ?_ | refine PW.then_ret ?_ | refine PW.block_ret ?_ | refine Cut.ret ?_ | refine Rnd.ret ?_ | refine PW.block_normal ?_ | refine CW.exit ?_ | refine PW.then_exit ?_ | refine PW.block_hit ?_ | refine PW.block_miss rfl ?_ | refine Cut.exit ?_ | refine Rnd.exit ?_)
    obtain ⟨vb, vo, rfl⟩ := hpv (fun h => by rw [h] at hlt; exact absurd hlt (Nat.not_lt_zero _))
    have hok := hv.2 l[i] (List.getElem_mem hlt)
    have hsrc := fun As Bs (hp : List.Perm As (bag (blks W) :: Bs)) => hv.src hlt hp
    have hone := callCells_one hok
    have hw1 := fun hc => lostD_write (l := l) hlt hc
    have hw2 := fun hc hb => lostM_write (mask := mask) (l := l) hlt hc hb
    have hsk := fun hb => lostM_skip (mask := mask) (l := l) hlt hb
    have hsn : l[i].data.length ≤ 64 → ∀ c ∈ l.take (i + 1), c.data.length ≤ 64 := by
      intro hc c hcm
      rw [List.take_succ_eq_append_getElem hlt] at hcm
      rcases List.mem_append.1 hcm with h | h
      · exact hs c h
      · rw [List.mem_singleton.1 h]; exact hc
    generalize l[i] = c at hok hsrc hone hw1 hw2 hsn
    obtain ⟨kind, at_, dv, data, cmask, torn, cut⟩ := c
    obtain ⟨-, -, hd, hdl, -, -, -⟩ := hok
    have hd1 := hd
    obtain ⟨pd, capd, hdv, hcd, -⟩ := hd1
    dsimp only at hdv hd hdl hw1 hw2 hsn hcd
    subst hdv
    unfold maxLen at hdl
    have d1 : (lostD l i).wait.length ≤ 1000000 := by
      show (lostW l i).length ≤ _
      rw [lostW_len l hi]; omega
    have d2 : 0 ≤ (lostD l i).count ∧ (lostD l i).count ≤ 1000000000 := by
      show 0 ≤ (i : Int) ∧ (i : Int) ≤ 1000000000
      omega
    have d3 : 0 ≤ (lostD l i).left ∧ (lostD l i).left < 9223372036854775808 := by
      show (0 : Int) ≤ 0 ∧ (0 : Int) < 9223372036854775808
      decide
    have hkl := keep_len mask (lostW l i)
    rw [lostW_len l hi] at hkl
    have m1 : (lostM mask l i).wait.length ≤ 1000000 := by
      show (keep mask (lostW l i)).length ≤ _
      omega
    have m2 : 0 ≤ (lostM mask l i).count ∧ (lostM mask l i).count ≤ 1000000000 := by
      show 0 ≤ ((keep mask (lostW l i)).length : Int) ∧ ((keep mask (lostW l i)).length : Int) ≤ 1000000000
      omega
    have m3 : 0 ≤ (lostM mask l i).left ∧ (lostM mask l i).left < 9223372036854775808 := by
      show (0 : Int) ≤ 0 ∧ (0 : Int) < 9223372036854775808
      decide
    refine CW.region ?_
    refine L1 (ps_move rfl).os ?_
    refine L1 (ps_ia_slice T.un22 T.sz29 rfl rfl (by omega) (by omega)).os ?_
    refine L1 (os_loadS (hsrc _ _ (by repeat (first | exact pk_head _ _ | apply pk_tail))) (by simp [callCells]) T.ag29 T.sz29 rfl) ?_
    refine LE (os_alloc T.ti29) ?_
    rintro _ _ ⟨b8, rfl, rfl⟩
    refine L1 (ps_assign rfl).os ?_
    refine L1 (os_storeAll (b := b8) (vs := callCells ⟨kind, at_, .slice pd data.length capd, data, cmask, torn, cut⟩) (by repeat (first | exact pk_head _ _ | apply pk_tail)) T.sz29 rfl rfl hone (by rfl)) ?_
    refine LW.nil ?_
    repeat (first | refine CW.seq ?_ | refine PW.then_ ?_ | refine CW.block ?_ | refine CW.skip ?_ | refine CW.ret ?_ | refine PW.then_ret ?_ | refine PW.block_ret ?_ | refine Cut.ret ?_ | refine Rnd.ret ?_ | refine PW.block_normal ?_ | refine CW.exit ?_ | refine PW.then_exit ?_ | refine PW.block_hit ?_ | refine PW.block_miss rfl ?_ | refine Cut.exit ?_ | refine Rnd.exit ?_)
    by_cases hdat : (64 : Int) < data.length
    · refine CW.region ?_
      refine L1 (ps_fa T.fa29_2 (by decide) rfl).os ?_
      refine L1 (os_load1 (by repeat (first | exact pk_head _ _ | apply pk_tail)) T.ag27 rfl (by rfl)) ?_
      refine L1 (ps_len_sl T.un27 rfl).os ?_
      refine L1 (ps_t (ps_gtr rfl rfl) (hdat)).os ?_
      refine LW.nil ?_
      repeat (first | refine CW.seq ?_ | refine PW.then_ ?_ | refine CW.block ?_ | refine CW.skip ?_ | refine CW.ret ?_ | refine PW.then_ret ?_ | refine PW.block_ret ?_ | refine Cut.ret ?_ | refine Rnd.ret ?_ | refine PW.block_normal ?_ | refine CW.exit ?_ | refine PW.then_exit ?_ | refine PW.block_hit ?_ | refine PW.block_miss rfl ?_ | refine Cut.exit ?_ | refine Rnd.exit ?_)
      refine CW.cond_true rfl ?_
      repeat (first | refine CW.seq ?_ | refine PW.then_ ?_ | refine CW.block ?_ | refine CW.skip ?_ | refine CW.ret ?_ | refine PW.then_ret ?_ | refine PW.block_ret ?_ | refine Cut.ret ?_ | refine Rnd.ret ?_ | refine PW.block_normal ?_ | refine CW.exit ?_ | refine PW.then_exit ?_ | refine PW.block_hit ?_ | refine PW.block_miss rfl ?_ | refine Cut.exit ?_ | refine Rnd.exit ?_)
      refine CW.region ?_
      refine L1 (ps_assign rfl).os ?_
      refine LW.nil ?_
      repeat (first | refine CW.seq ?_ | refine PW.then_ ?_ | refine CW.block ?_ | refine CW.skip ?_ | refine CW.ret ?_ | refine PW.then_ret ?_ | refine PW.block_ret ?_ | refine Cut.ret ?_ | refine Rnd.ret ?_ | refine PW.block_normal ?_ | refine CW.exit ?_ | refine PW.then_exit ?_ | refine PW.block_hit ?_ | refine PW.block_miss rfl ?_ | refine Cut.exit ?_ | refine Rnd.exit ?_)
      exact Fin.ret1 (v := .bool true) rfl [bag (blks W)] rfl ⟨rfl, rfl⟩ (by repeat (first | exact Ent.refl _ | (apply Ent.cons; · repeat (first | exact pk_head _ _ | apply pk_tail)) | apply Ent.skip))
    have hd64 : data.length ≤ 64 := by omega
    have hw1 := hw1 hd64
    have hw2 := hw2 hd64
    have hsn := hsn hd64
    refine CW.region ?_
    refine L1 (ps_fa T.fa29_2 (by decide) rfl).os ?_
    refine L1 (os_load1 (by repeat (first | exact pk_head _ _ | apply pk_tail)) T.ag27 rfl (by rfl)) ?_
    refine L1 (ps_len_sl T.un27 rfl).os ?_
    refine L1 (ps_f (ps_gtr rfl rfl) (hdat)).os ?_
    refine LW.nil ?_
    repeat (first | refine CW.seq ?_ | refine PW.then_ ?_ | refine CW.block ?_ | refine CW.skip ?_ | refine CW.ret ?_ | refine PW.then_ret ?_ | refine PW.block_ret ?_ | refine Cut.ret ?_ | refine Rnd.ret ?_ | refine PW.block_normal ?_ | refine CW.exit ?_ | refine PW.then_exit ?_ | refine PW.block_hit ?_ | refine PW.block_miss rfl ?_ | refine Cut.exit ?_ | refine Rnd.exit ?_)
    refine CW.cond_false rfl ?_
    repeat (first | refine CW.seq ?_ | refine PW.then_ ?_ | refine CW.block ?_ | refine CW.skip ?_ | refine CW.ret ?_ | refine PW.then_ret ?_ | refine PW.block_ret ?_ | refine Cut.ret ?_ | refine Rnd.ret ?_ | refine PW.block_normal ?_ | refine CW.exit ?_ | refine PW.then_exit ?_ | refine PW.block_hit ?_ | refine PW.block_miss rfl ?_ | refine Cut.exit ?_ | refine Rnd.exit ?_)
    refine CW.region ?_
    refine L1 (ps_move rfl).os ?_
    refine L1 (ps_fa T.fa29_1 (by decide) rfl).os ?_
    refine L1 (os_load1 (by repeat (first | exact pk_head _ _ | apply pk_tail)) T.ag3 rfl (by rfl)) ?_
    refine L1 (ps_to (u := .int .i64 (at_ % 8)) (by rfl) (ps_mask_i64 (m := 3) rfl rfl rfl (by decide))).os ?_
    refine L1 (ps_fa T.fa29_2 (by decide) rfl).os ?_
    refine L1 (os_load1 (by repeat (first | exact pk_head _ _ | apply pk_tail)) T.ag27 rfl (by rfl)) ?_
    refine LE (os_call (Write_to hw1 hd d1 d2 d3) Try.func18 (by decide +kernel) rfl rfl (pk2 (by repeat (first | exact pk_head _ _ | apply pk_tail)) (by repeat (first | exact pk_head _ _ | apply pk_tail)))) ?_
    rintro _ _ ⟨_, ⟨rfl, rfl⟩, rfl⟩
    refine LW.nil ?_
    repeat (first | refine CW.seq ?_ | refine PW.then_ ?_ | refine CW.block ?_ | refine CW.skip ?_ | refine CW.ret ?_ | refine PW.then_ret ?_ | refine PW.block_ret ?_ | refine Cut.ret ?_ | refine Rnd.ret ?_ | refine PW.block_normal ?_ | refine CW.exit ?_ | refine PW.then_exit ?_ | refine PW.block_hit ?_ | refine PW.block_miss rfl ?_ | refine Cut.exit ?_ | refine Rnd.exit ?_)
    by_cases hbit : mask / 2 ^ (i % 64) % 2 = 1
    · refine CW.region ?_
      refine L1 (ps_move rfl).os ?_
      refine L1 (ps_move rfl).os ?_
      refine L1 (ps_shr rfl rfl (by omega)).os ?_
      refine L1 (ps_to (congrArg (Value.int .u64) (shr_bit' mask i (by omega))) (ps_mask_u64 (m := 1) rfl rfl rfl (by decide))).os ?_
      refine L1 (ps_t (ps_eql rfl rfl) (by exact_mod_cast hbit)).os ?_
      refine LW.nil ?_
      repeat (first | refine CW.seq ?_ | refine PW.then_ ?_ | refine CW.block ?_ | refine CW.skip ?_ | refine CW.ret ?_ | refine PW.then_ret ?_ | refine PW.block_ret ?_ | refine Cut.ret ?_ | refine Rnd.ret ?_ | refine PW.block_normal ?_ | refine CW.exit ?_ | refine PW.then_exit ?_ | refine PW.block_hit ?_ | refine PW.block_miss rfl ?_ | refine Cut.exit ?_ | refine Rnd.exit ?_)
      refine CW.cond_true rfl ?_
      repeat (first | refine CW.seq ?_ | refine PW.then_ ?_ | refine CW.block ?_ | refine CW.skip ?_ | refine CW.ret ?_ | refine PW.then_ret ?_ | refine PW.block_ret ?_ | refine Cut.ret ?_ | refine Rnd.ret ?_ | refine PW.block_normal ?_ | refine CW.exit ?_ | refine PW.then_exit ?_ | refine PW.block_hit ?_ | refine PW.block_miss rfl ?_ | refine Cut.exit ?_ | refine Rnd.exit ?_)
      refine CW.region ?_
      refine L1 (ps_move rfl).os ?_
      refine L1 (ps_fa T.fa29_1 (by decide) rfl).os ?_
      refine L1 (os_load1 (by repeat (first | exact pk_head _ _ | apply pk_tail)) T.ag3 rfl (by rfl)) ?_
      refine L1 (ps_to (u := .int .i64 (at_ % 8)) (by rfl) (ps_mask_i64 (m := 3) rfl rfl rfl (by decide))).os ?_
      refine L1 (ps_fa T.fa29_2 (by decide) rfl).os ?_
      refine L1 (os_load1 (by repeat (first | exact pk_head _ _ | apply pk_tail)) T.ag27 rfl (by rfl)) ?_
      refine LE (os_call (Write_to (hw2 hbit) hd m1 m2 m3) Try.func18 (by decide +kernel) rfl rfl (pk2 (by repeat (first | exact pk_head _ _ | apply pk_tail)) (by repeat (first | exact pk_head _ _ | apply pk_tail)))) ?_
      rintro _ _ ⟨_, ⟨rfl, rfl⟩, rfl⟩
      refine LW.nil ?_
      repeat (first | refine CW.seq ?_ | refine PW.then_ ?_ | refine CW.block ?_ | refine CW.skip ?_ | refine CW.ret ?_ | refine PW.then_ret ?_ | refine PW.block_ret ?_ | refine Cut.ret ?_ | refine Rnd.ret ?_ | refine PW.block_normal ?_ | refine CW.exit ?_ | refine PW.then_exit ?_ | refine PW.block_hit ?_ | refine PW.block_miss rfl ?_ | refine Cut.exit ?_ | refine Rnd.exit ?_)
      refine CW.region ?_
      refine L1 (ps_add_i64 rfl rfl (by omega) (by omega)).os ?_
      refine L1 (ps_move rfl).os ?_
      refine LW.nil ?_
      exact Meet.round (l.length - (i + 1)) (i + 1) (by omega) ⟨hlt, rfl, hsn⟩ (by repeat (first | (with_reducible exact Ag.refl _ _) | (with_reducible apply Ag.pu0) | ((with_reducible refine Ag.pu _ ?_ ?_); · exact rfl) | ((with_reducible refine Ag.mix ?_ ?_); · exact rfl) | ((with_reducible refine Ag.pus ?_ ?_); · exact rfl))) ⟨rfl, trivial⟩ (by repeat (first | exact Ent.refl _ | (apply Ent.cons; · repeat (first | exact pk_head _ _ | apply pk_tail)) | apply Ent.skip))
    · refine CW.region ?_
      refine L1 (ps_move rfl).os ?_
      refine L1 (ps_move rfl).os ?_
      refine L1 (ps_shr rfl rfl (by omega)).os ?_
      refine L1 (ps_to (congrArg (Value.int .u64) (shr_bit' mask i (by omega))) (ps_mask_u64 (m := 1) rfl rfl rfl (by decide))).os ?_
      refine L1 (ps_f (ps_eql rfl rfl) (by exact_mod_cast hbit)).os ?_
      refine LW.nil ?_
      repeat (first | refine CW.seq ?_ | refine PW.then_ ?_ | refine CW.block ?_ | refine CW.skip ?_ | refine CW.ret ?_ | refine PW.then_ret ?_ | refine PW.block_ret ?_ | refine Cut.ret ?_ | refine Rnd.ret ?_ | refine PW.block_normal ?_ | refine CW.exit ?_ | refine PW.then_exit ?_ | refine PW.block_hit ?_ | refine PW.block_miss rfl ?_ | refine Cut.exit ?_ | refine Rnd.exit ?_)
      refine CW.cond_false rfl ?_
      repeat (first | refine CW.seq ?_ | refine PW.then_ ?_ | refine CW.block ?_ | refine CW.skip ?_ | refine CW.ret ?_ | refine PW.then_ret ?_ | refine PW.block_ret ?_ | refine Cut.ret ?_ | refine Rnd.ret ?_ | refine PW.block_normal ?_ | refine CW.exit ?_ | refine PW.then_exit ?_ | refine PW.block_hit ?_ | refine PW.block_miss rfl ?_ | refine Cut.exit ?_ | refine Rnd.exit ?_)
      refine CW.region ?_
      refine L1 (ps_add_i64 rfl rfl (by omega) (by omega)).os ?_
      refine L1 (ps_move rfl).os ?_
      refine LW.nil ?_
      refine Meet.round (l.length - (i + 1)) (i + 1) (by omega) ⟨hlt, rfl, hsn⟩ (by repeat (first | (with_reducible exact Ag.refl _ _) | (with_reducible apply Ag.pu0) | ((with_reducible refine Ag.pu _ ?_ ?_); · exact rfl) | ((with_reducible refine Ag.mix ?_ ?_); · exact rfl) | ((with_reducible refine Ag.pus ?_ ?_); · exact rfl))) ⟨rfl, trivial⟩ ?_
      rw [hsk hbit]
      exact (by repeat (first | exact Ent.refl _ | (apply Ent.cons; · repeat (first | exact pk_head _ _ | apply pk_tail)) | apply Ent.skip))
  · refine CW.region ?_
    refine L1 (ps_f (ps_lss rfl rfl) (by omega)).os ?_
    refine LW.nil ?_
    repeat (first | refine CW.seq ?_ | refine PW.then_ ?_ | refine CW.block ?_ | refine CW.skip ?_ | refine CW.ret ?_ | refine PW.then_ret ?_ | refine PW.block_ret ?_ | refine Cut.ret ?_ | refine Rnd.ret ?_ | refine PW.block_normal ?_ | refine CW.exit ?_ | refine PW.then_exit ?_ | refine PW.block_hit ?_ | refine PW.block_miss rfl ?_ | refine Cut.exit ?_ | refine Rnd.exit ?_)
    refine CW.cond_false rfl ?_
    repeat (first | refine CW.seq ?_ | refine PW.then_ ?_ | refine CW.block ?_ | refine CW.skip ?_ | refine CW.ret ?_ | refine PW.then_ret ?_ | refine PW.block_ret ?_ | refine Cut.ret ?_ | refine Rnd.ret ?_ | refine PW.block_normal ?_ | refine CW.exit ?_ | refine PW.then_exit ?_ | refine PW.block_hit ?_ | refine PW.block_miss rfl ?_ | refine Cut.exit ?_ | refine Rnd.exit ?_)
    have hil : i = l.length := by omega
    subst hil
    have hok := lostD_ok hs
    have hokm := lostM_ok (mask := mask) hs
    have hwl := lostW_len l (Nat.le_refl l.length)
    have d1 : (lostD l l.length).wait.length ≤ 1000000 := by
      show (lostW l l.length).length ≤ _
      omega
    have hkl := keep_len mask (lostW l l.length)
    have m1 : (lostM mask l l.length).wait.length ≤ 1000000 := by
      show (keep mask (lostW l l.length)).length ≤ _
      omega
    have hread := fun k => lost_read (mask := mask) (k := k) hs
    have hokc := DS.crash_ok hok mask (-1) 0
    have hlc := DS.crash_len hok mask (-1) 0
    have hdl : (lostD l l.length).data.length = 8 := new8
    have hml : (lostM mask l l.length).data.length = 8 := new8
    have c1 : ((lostD l l.length).crash mask (-1) 0).wait.length = 0 := rfl
    have c2 : ((lostD l l.length).crash mask (-1) 0).count = l.length := rfl
    have hcs := fun p => Crash_spec p (lostD l l.length) hok d1 mask hmask (-1) 0
    generalize (lostD l l.length).crash mask (-1) 0 = dC at hread hokc hlc c1 c2 hcs
    generalize lostM mask l l.length = mS at hread hokm m1 hml
    have c1' : dC.wait.length ≤ 1000000 := by omega
    have rd1 := fun p k hk => Read_ok p dC hokc c1' k hk
    have rd2 := fun p k hk => Read_ok p mS hokm m1 k hk
    simp only [hread] at rd1
    have wt := fun p => Waits_spec p dC
    have wr := fun p => Writes_spec p dC
    rw [c1] at wt
    rw [c2] at wr
    refine CW.region ?_
    refine L1 (ps_move rfl).os ?_
    refine L1 (ps_move rfl).os ?_
    refine LE (os_call (hcs p) Try.func19 (by decide +kernel) rfl rfl (List.Perm.refl _)) ?_
    rintro _ _ ⟨_, ⟨rfl, rfl⟩, rfl⟩
    refine LW.nil ?_
    repeat (first | refine CW.seq ?_ | refine PW.then_ ?_ | refine CW.block ?_ | refine CW.skip ?_ | refine CW.ret ?_ | refine PW.then_ret ?_ | refine PW.block_ret ?_ | refine Cut.ret ?_ | refine Rnd.ret ?_ | refine PW.block_normal ?_ | refine CW.exit ?_ | refine PW.then_exit ?_ | refine PW.block_hit ?_ | refine PW.block_miss rfl ?_ | refine Cut.exit ?_ | refine Rnd.exit ?_)
    refine CW.region ?_
    refine L1 (ps_move rfl).os ?_
    refine LW.nil ?_
    repeat (first | refine CW.seq ?_ | refine PW.then_ ?_ | refine CW.block ?_ | refine CW.skip ?_ | refine CW.ret ?_ | refine PW.then_ret ?_ | refine PW.block_ret ?_ | refine Cut.ret ?_ | refine Rnd.ret ?_ | refine PW.block_normal ?_ | refine CW.exit ?_ | refine PW.then_exit ?_ | refine PW.block_hit ?_ | refine PW.block_miss rfl ?_ | refine Cut.exit ?_ | refine Rnd.exit ?_)
    refine CW.loopM (α := Nat) [4, 9, 10, 11, 12, 13, 55, 56, 57, 58, 59, 60, 61, 62, 63, 64, 65, 66, 67, 68, 69, 70, 71, 72, 73, 74, 75] (fun k i => i ≤ 8 ∧ k = 8 - i) (fun i => [(55, .int .i64 i)])
      (fun i => DiskAt p dC :: DiskAt q mS :: bag (blks W) :: F) 8 0 ⟨Nat.zero_le _, rfl⟩ ⟨rfl, trivial⟩ (by repeat (first | exact Ent.refl _ | (apply Ent.cons; · repeat (first | exact pk_head _ _ | apply pk_tail)) | apply Ent.skip)) ?_
    rintro k i g' ⟨hi, hk⟩
    repeat (first | refine CW.seq ?_ | refine PW.then_ ?_ | refine CW.block ?_ | refine CW.skip ?_ | refine CW.ret ?_ | refine PW.then_ret ?_ | refine PW.block_ret ?_ | refine Cut.ret ?_ | refine Rnd.ret ?_ | refine PW.block_normal ?_ | refine CW.exit ?_ | refine PW.then_exit ?_ | refine PW.block_hit ?_ | refine PW.block_miss rfl ?_ | refine Cut.exit ?_ | refine Rnd.exit ?_)
    by_cases hlt : i < 8
    · have hi1 : i < dC.data.length := by omega
      have hi2 : i < mS.data.length := by omega
      have hlen := DS.cur_len mS hokm i hi2 mS.wait.length
      have hcr : mS.cur i mS.wait.length = mS.read i := by unfold DS.cur DS.read; rw [List.take_length]
      rw [hcr] at hlen
      have hp64 : ((bv (mS.read i)).drop 0).take (bv (mS.read i)).length = bv (mS.read i) := by rw [List.drop_zero, List.take_length]
      refine CW.region ?_
      refine L1 (ps_t (ps_lss rfl rfl) (by omega)).os ?_
      refine LW.nil ?_
      repeat (first | refine CW.seq ?_ | refine PW.then_ ?_ | refine CW.block ?_ | refine CW.skip ?_ | refine CW.ret ?_ | refine PW.then_ret ?_ | refine PW.block_ret ?_ | refine Cut.ret ?_ | refine Rnd.ret ?_ | refine PW.block_normal ?_ | refine CW.exit ?_ | refine PW.then_exit ?_ | refine PW.block_hit ?_ | refine PW.block_miss rfl ?_ | refine Cut.exit ?_ | refine Rnd.exit ?_)
      refine CW.cond_true rfl ?_
      repeat (first | refine CW.seq ?_ | refine PW.then_ ?_ | refine CW.block ?_ | refine CW.skip ?_ | refine CW.ret ?_ | refine PW.then_ret ?_ | refine PW.block_ret ?_ | refine Cut.ret ?_ | refine Rnd.ret ?_ | refine PW.block_normal ?_ | refine CW.exit ?_ | refine PW.then_exit ?_ | refine PW.block_hit ?_ | refine PW.block_miss rfl ?_ | refine Cut.exit ?_ | refine Rnd.exit ?_)
      refine CW.region ?_
      refine L1 (ps_move rfl).os ?_
      refine L1 (ps_assign rfl).os ?_
      refine LW.nil ?_
      repeat (first | refine CW.seq ?_ | refine PW.then_ ?_ | refine CW.block ?_ | refine CW.skip ?_ | refine CW.ret ?_ | refine PW.then_ret ?_ | refine PW.block_ret ?_ | refine Cut.ret ?_ | refine Rnd.ret ?_ | refine PW.block_normal ?_ | refine CW.exit ?_ | refine PW.then_exit ?_ | refine PW.block_hit ?_ | refine PW.block_miss rfl ?_ | refine Cut.exit ?_ | refine Rnd.exit ?_)
      refine CW.region ?_
      refine L1 (ps_move rfl).os ?_
      refine L1 (ps_move rfl).os ?_
      refine LE (os_call (rd1 p i hi1) Try.func20 (by decide +kernel) rfl rfl (by repeat (first | exact pk_head _ _ | apply pk_tail))) ?_
      rintro _ _ ⟨_, ⟨bx, rfl, rfl⟩, rfl⟩
      refine L1 (ps_move rfl).os ?_
      refine L1 (ps_extract rfl rfl).os ?_
      refine L1 (ps_extract rfl rfl).os ?_
      refine L1 (ps_assign rfl).os ?_
      refine L1 (ps_assign rfl).os ?_
      refine LW.nil ?_
      repeat (first | refine CW.seq ?_ | refine PW.then_ ?_ | refine CW.block ?_ | refine CW.skip ?_ | refine CW.ret ?_ | refine PW.then_ret ?_ | refine PW.block_ret ?_ | refine Cut.ret ?_ | refine Rnd.ret ?_ | refine PW.block_normal ?_ | refine CW.exit ?_ | refine PW.then_exit ?_ | refine PW.block_hit ?_ | refine PW.block_miss rfl ?_ | refine Cut.exit ?_ | refine Rnd.exit ?_)
      refine CW.region ?_
      refine L1 (ps_move rfl).os ?_
      refine L1 (ps_move rfl).os ?_
      refine LE (os_call (rd2 q i hi2) Try.func20 (by decide +kernel) rfl rfl (by repeat (first | exact pk_head _ _ | apply pk_tail))) ?_
      rintro _ _ ⟨_, ⟨by_, rfl, rfl⟩, rfl⟩
      refine L1 (ps_move rfl).os ?_
      refine L1 (ps_extract rfl rfl).os ?_
      refine L1 (ps_extract rfl rfl).os ?_
      refine L1 (ps_assign rfl).os ?_
      refine L1 (ps_assign rfl).os ?_
      refine LW.nil ?_
      repeat (first | refine CW.seq ?_ | refine PW.then_ ?_ | refine CW.block ?_ | refine CW.skip ?_ | refine CW.ret ?_ | refine PW.then_ret ?_ | refine PW.block_ret ?_ | refine Cut.ret ?_ | refine Rnd.ret ?_ | refine PW.block_normal ?_ | refine CW.exit ?_ | refine PW.then_exit ?_ | refine PW.block_hit ?_ | refine PW.block_miss rfl ?_ | refine Cut.exit ?_ | refine Rnd.exit ?_)
      refine CW.region ?_
      refine L1 (ps_move rfl).os ?_
      refine L1 (os_str (mS.read i) T.un27 T.un5 T.un9 rfl hlen (Src.cb (b := bx) (by repeat (first | exact pk_head _ _ | apply pk_tail)) hp64)) ?_
      refine L1 (ps_move rfl).os ?_
      refine L1 (os_str (mS.read i) T.un27 T.un5 T.un9 rfl hlen (Src.cb (b := by_) (by repeat (first | exact pk_head _ _ | apply pk_tail)) hp64)) ?_
      refine L1 (ps_f (ps_strV_neq _ _ rfl rfl) (fun h => h rfl)).os ?_
      refine LW.nil ?_
      repeat (first | refine CW.seq ?_ | refine PW.then_ ?_ | refine CW.block ?_ | refine CW.skip ?_ | refine CW.ret ?_ | refine PW.then_ret ?_ | refine PW.block_ret ?_ | refine Cut.ret ?_ | refine Rnd.ret ?_ | refine PW.block_normal ?_ | refine CW.exit ?_ | refine PW.then_exit ?_ | refine PW.block_hit ?_ | refine PW.block_miss rfl ?_ | refine Cut.exit ?_ | refine Rnd.exit ?_)
      refine CW.cond_false rfl ?_
      repeat (first | refine CW.seq ?_ | refine PW.then_ ?_ | refine CW.block ?_ | refine CW.skip ?_ | refine CW.ret ?_ | refine PW.then_ret ?_ | refine PW.block_ret ?_ | refine Cut.ret ?_ | refine Rnd.ret ?_ | refine PW.block_normal ?_ | refine CW.exit ?_ | refine PW.then_exit ?_ | refine PW.block_hit ?_ | refine PW.block_miss rfl ?_ | refine Cut.exit ?_ | refine Rnd.exit ?_)
      refine CW.region ?_
      refine L1 (ps_add_i64 rfl rfl (by omega) (by omega)).os ?_
      refine L1 (ps_move rfl).os ?_
      refine LW.nil ?_
      exact Meet.round (8 - (i + 1)) (i + 1) (by omega) ⟨hlt, rfl⟩ (by repeat (first | (with_reducible exact Ag.refl _ _) | (with_reducible apply Ag.pu0) | ((with_reducible refine Ag.pu _ ?_ ?_); · exact rfl) | ((with_reducible refine Ag.mix ?_ ?_); · exact rfl) | ((with_reducible refine Ag.pus ?_ ?_); · exact rfl))) ⟨rfl, trivial⟩ (by repeat (first | exact Ent.refl _ | (apply Ent.cons; · repeat (first | exact pk_head _ _ | apply pk_tail)) | apply Ent.skip))
    · refine CW.region ?_
      refine L1 (ps_f (ps_lss rfl rfl) (by omega)).os ?_
      refine LW.nil ?_
      repeat (first | refine CW.seq ?_ | refine PW.then_ ?_ | refine CW.block ?_ | refine CW.skip ?_ | refine CW.ret ?_ | refine PW.then_ret ?_ | refine PW.block_ret ?_ | refine Cut.ret ?_ | refine Rnd.ret ?_ | refine PW.block_normal ?_ | refine CW.exit ?_ | refine PW.then_exit ?_ | refine PW.block_hit ?_ | refine PW.block_miss rfl ?_ | refine Cut.exit ?_ | refine Rnd.exit ?_)
      refine CW.cond_false rfl ?_
      repeat (first | refine CW.seq ?_ | refine PW.then_ ?_ | refine CW.block ?_ | refine CW.skip ?_ | refine CW.ret ?_ | refine PW.then_ret ?_ | refine PW.block_ret ?_ | refine Cut.ret ?_ | refine Rnd.ret ?_ | refine PW.block_normal ?_ | refine CW.exit ?_ | refine PW.then_exit ?_ | refine PW.block_hit ?_ | refine PW.block_miss rfl ?_ | refine Cut.exit ?_ | refine Rnd.exit ?_)
      refine CW.region ?_
      refine L1 (ps_move rfl).os ?_
      refine LE (os_call (wt p) Try.func21 (by decide +kernel) rfl rfl (by repeat (first | exact pk_head _ _ | apply pk_tail))) ?_
      rintro _ _ ⟨_, ⟨rfl, rfl⟩, rfl⟩
      refine L1 (ps_t (ps_eql rfl rfl) (rfl)).os ?_
      refine L1 (ps_move rfl).os ?_
      refine LG1 ?_ (ps_move rfl).os ?_
      · exact rfl
      refine LGE ?_ (os_call (wr p) Try.func22 (by decide +kernel) rfl rfl (by repeat (first | exact pk_head _ _ | apply pk_tail))) ?_
      · exact rfl
      rintro _ _ ⟨_, ⟨rfl, rfl⟩, rfl⟩
      refine LG1 ?_ (ps_move rfl).os ?_
      · exact rfl
      refine LG1 ?_ (ps_len_sl T.un22 rfl).os ?_
      · exact rfl
      refine LG1 ?_ (ps_t (ps_eql rfl rfl) (rfl)).os ?_
      · exact rfl
      refine L1 (ps_pick_t rfl rfl).os ?_
      refine L1 (ps_assign rfl).os ?_
      refine LW.nil ?_
      repeat (first | refine CW.seq ?_ | refine PW.then_ ?_ | refine CW.block ?_ | refine CW.skip ?_ | refine CW.ret ?_ | refine PW.then_ret ?_ | refine PW.block_ret ?_ | refine Cut.ret ?_ | refine Rnd.ret ?_ | refine PW.block_normal ?_ | refine CW.exit ?_ | refine PW.then_exit ?_ | refine PW.block_hit ?_ | refine PW.block_miss rfl ?_ | refine Cut.exit ?_ | refine Rnd.exit ?_)
      exact Fin.ret1 (v := .bool true) rfl [bag (blks W)] rfl ⟨rfl, rfl⟩ (by repeat (first | exact Ent.refl _ | (apply Ent.cons; · repeat (first | exact pk_head _ _ | apply pk_tail)) | apply Ent.skip))

namespace diskLost
open Go.ChangeShapes Go.WideShapes Go.ChangeAt Go.RowKit
theorem own : ownKnob Try.prog.godebug = none := by kernel_rfl
theorem laidOut : laidOutB Try.prog = true := by kernel_rfl
set_option maxRecDepth 100000 in
theorem lifted (os : Os) (started : os.Started) (H : Type) (enc : TypeId × Value → H) :
    ReturnsInHanded {} Try.checked os 3 .any (Rows.diskLostSpec.pre6 enc Try.prog Try.f3 Rows.diskLostRow.domain false) (Rows.diskLostSpec.post enc Try.prog Try.f3 false true false false) := by
  refine returnsInHanded_of_change (C := Try.checked) own started (by kernel_rfl) Try.func3
    (ChangeSpec.witness6 (enc := enc) (C := Try.checked) false ⟨#[], #[(Value.slice none 0 0), (Value.int .u64 0)], []⟩ 8 (by kernel_rfl) (by kernel_rfl) (by kernel_rfl) (by kernel_rfl)) ?_
  intro W base args ds gs before hval0 hW hcnd _
  have hval : ∀ (j : Nat) t v, Try.f3.params[j]? = some t → args[j]? = some v → Value.okWide Try.prog W .any base t v := hval0
  have hW' := hW
  obtain ⟨p, q, hA0, hV, rfl, hfz, hnd⟩ := hW
  have hA : DataW.TrodAll enc Try.prog W 0 (fun _ => true) true Try.f3.params.toList args.toList ds p := hA0
  rw [Try.params3] at hA hval
  obtain ⟨v0, vs0, d0, ds0, p0, q0, hargs, rfl, rfl, h0, r0⟩ := trodAll_cons hA
  obtain ⟨v1, vs1, d1, ds1, p1, q1, rfl, rfl, rfl, h1, r1⟩ := trodAll_cons r0
  obtain ⟨rfl, rfl, rfl⟩ := trodAll_nil r1
  obtain rfl : args = #[v0, v1] := by cases args; simp_all
  obtain ⟨rfl, rfl⟩ := trodVars_none hV
  obtain ⟨_, _, _, rfl⟩ := okWide_slice T.un22 (hval 0 22 v0 rfl rfl)
  obtain ⟨fu0, hf0⟩ := h0
  obtain ⟨a0, b0⟩ := open_Slpaciolilaw04Call hf0
  obtain ⟨a1, rfl, rfl, rfl, wf1⟩ := open_int T.un23 (hval 1 23 v1 rfl rfl) h1
  have w1 := bounds_u64' wf1
  simp only [List.append_nil] at hW'
  refine (LawOf.calls (DiskLost_law W _ a0 b0 a1 w1)).mono fun e W' ⟨he, hb⟩ => ?_
  subst he
  exact ⟨_, rfl, law_post laidOut rfl (tb := 4) (by kernel_rfl) T.un4 (by intro t ht; rw [Try.params3] at ht; simp only [List.mem_cons, List.not_mem_nil, or_false] at ht; rcases ht with rfl | rfl <;> exact ⟨by kernel_rfl, by decide +kernel⟩) rfl hW' hb⟩
theorem holds : Rows.DiskLostSaid :=
  OpenClaim.holds_of_wide 3 Try.f3 rfl rfl rfl rfl rfl rfl rfl ⟨rfl, rfl, rfl, rfl, rfl⟩ rfl rfl rfl rfl rfl (by kernel_rfl) Try.func3 (by kernel_rfl)
    (of_decide_eq_true (by kernel_rfl)) (by unfold Func.isWrapper; rw [if_neg (of_decide_eq_false (by kernel_rfl))]; exact ⟨rfl, rfl⟩)
    (fun os started H enc _ => lifted os started H enc)
end diskLost
end Go.Proofs.Ytejbbpofamfhiaa
