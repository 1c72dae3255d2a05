/- The law DiskTorn: of a torn write just its beginning is there, and of the rest what was ahead of it: it answers true for every two slices of bytes and every number (no condition). -/
import Derived.Test.YtejbbpofamfhiaaDiskU
import Derived.Test.YtejbbpofamfhiaaLaw
import Derived.Test.YtejbbpofamfhiaaRows
namespace Go.Proofs.Ytejbbpofamfhiaa
open Go Go.SL
set_option linter.unusedVariables false
set_option linter.unusedSimpArgs false

theorem torn (a b : List UInt8) (ha : a.length ≤ 64) (hb : b.length ≤ 64) (cut : Int) :
    ∃ st1 st2 st3, (DS.new 1).write 0 a = (0, st1) ∧ st1.Ok ∧ st1.wait.length = 1 ∧ st1.flushE = (0, st2) ∧ st2.write 0 b = (0, st3) ∧ st2.wait.length = 0 ∧ st2.count = 1 ∧ st2.left = 0 ∧ st3.Ok ∧ st3.wait.length = 1 ∧
      (st3.crash 1 0 cut).Ok ∧ (st3.crash 1 0 cut).wait.length = 0 ∧ (st3.crash 1 0 cut).data.length = 1 ∧ (st3.crash 1 0 cut).read 0 = (pad 64 b).take (clampN cut) ++ (pad 64 a).drop (clampN cut) := by
  have h0 := DS.new_ok (n := 1) (by decide)
  have w1 : (DS.new 1).write 0 a = (0, { DS.new 1 with wait := [(0, pad 64 a)], count := 1 }) := write_fine (by omega) (by decide) ha rfl
  have k1 := DS.write_ok h0 0 a
  rw [w1] at k1
  have w2 : ({ DS.new 1 with wait := [(0, pad 64 a)], count := 1 } : DS).flushE = (0, { DS.new 1 with data := [pad 64 a], count := 1 }) := rfl
  have k2 := DS.flushE_ok k1
  rw [w2] at k2
  have w3 : ({ DS.new 1 with data := [pad 64 a], count := 1 } : DS).write 0 b = (0, { DS.new 1 with data := [pad 64 a], wait := [(0, pad 64 b)], count := 2 }) := write_fine (by omega) (by show (0 : Int) < ((1 : Nat) : Int); omega) hb rfl
  have k3 := DS.write_ok k2 0 b
  rw [w3] at k3
  refine ⟨_, _, _, w1, k1, rfl, w2, w3, rfl, rfl, rfl, k3, rfl, DS.crash_ok k3 _ _ _, rfl, ?_, ?_⟩
  · rw [DS.crash_len k3]; rfl
  · simp [DS.crash, DS.read, crashTo, crash1, cutLen]

theorem spl_pad0 (bs : List UInt8) (h : bs.length ≤ 64) : spl (bv (List.replicate 64 0)) 0 (bv bs) = bv (pad 64 bs) := by
  unfold spl pad
  rw [bv_append, length_bv, Nat.zero_add, ← bv_drop, List.drop_replicate, List.take_zero, List.nil_append]

theorem DiskTorn_law (W : World) (va : Value) (a0 : List UInt8) (ha0 : ByR (bag (blks W)) va a0) (hal : a0.length ≤ maxLen) (vb : Value) (b0 : List UInt8) (hb0 : ByR (bag (blks W)) vb b0) (hbl : b0.length ≤ maxLen)
    (cut : Int) (hc : -9223372036854775808 ≤ cut ∧ cut < 9223372036854775808) : LawOf Try.prog 4 [va, vb, .int .i64 cut] W := by
  have ha1 := ha0
  obtain ⟨pa, capa, rfl, hcapa, hsrca⟩ := ha1
  have hb1 := hb0
  obtain ⟨pb, capb, rfl, hcapb, hsrcb⟩ := hb1
  unfold maxLen at hal hbl
  have ha := ha0.take _ (Nat.min_le_left a0.length 64)
  have hb := hb0.take _ (Nat.min_le_left b0.length 64)
  have ha64 : (a0.take (min a0.length 64)).length ≤ 64 := by simp; omega
  have hb64 : (b0.take (min b0.length 64)).length ≤ 64 := by simp; omega
  have hal2 : (a0.take (min a0.length 64)).length = min a0.length 64 := by simp
  have hbl2 : (b0.take (min b0.length 64)).length = min b0.length 64 := by simp
  generalize a0.take (min a0.length 64) = xs at ha ha64 hal2
  generalize b0.take (min b0.length 64) = bs at hb hb64 hbl2
  obtain ⟨st1, st2, st3, w1, k1, l1, w2, w3, l2, c2, f2, k3, l3, k4, l4, d4, hread⟩ := torn xs bs ha64 hb64 cut
  have l4' : (st3.crash 1 0 cut).wait.length ≤ 1000000 := by omega
  have d4' : 0 < (st3.crash 1 0 cut).data.length := by omega
  have rd := fun p => Read_ok p _ k4 l4' 0 d4'
  simp only [hread] at rd
  have hcl : clampN cut ≤ 64 := by unfold clampN; omega
  have hpa := length_pad ha64
  have hpb := length_pad hb64
  have hz : (List.replicate (64 : Int).toNat [Value.int .u8 0]).flatten = bv (List.replicate 64 0) := rfl
  refine FSpec.intro Try.func4 rfl 69 Try.ntmps4 (Nat.le_of_ble_eq_true rfl) fun w0 F => ?_
  show CW _ _ _ _ _ _ (_ :: F)
  repeat (first | refine CW.seq ?_ | refine PW.then_ ?_ | refine CW.block ?_ | refine CW.skip ?_ | refine CW.ret ?_ | refine PW.then_ret ?_ | refine PW.block_ret ?_ | refine Cut.ret ?_ | refine Rnd.ret ?_ | refine PW.block_normal ?_ | refine CW.exit ?_ | refine PW.then_exit ?_ | refine PW.block_hit ?_ | refine PW.block_miss rfl ?_ | refine Cut.exit ?_ | refine Rnd.exit ?_)
  refine CW.region ?_
  refine L1 (ps_assign rfl).os ?_
  refine LW.nil ?_
  repeat (first | refine CW.seq ?_ | refine PW.then_ ?_ | refine CW.block ?_ | refine CW.skip ?_ | refine CW.ret ?_ | refine PW.then_ret ?_ | refine PW.block_ret ?_ | refine Cut.ret ?_ | refine Rnd.ret ?_ | refine PW.block_normal ?_ | refine CW.exit ?_ | refine PW.then_exit ?_ | refine PW.block_hit ?_ | refine PW.block_miss rfl ?_ | refine Cut.exit ?_ | refine Rnd.exit ?_)
  refine CW.region ?_
  refine LE (os_call (pre := []) fit_spec Try.func16 (by decide +kernel) rfl rfl (List.Perm.refl _)) ?_
  rintro _ _ ⟨_, ⟨rfl, rfl⟩, rfl⟩
  refine L1 (ps_not rfl).os ?_
  refine LW.nil ?_
  repeat (first | refine CW.seq ?_ | refine PW.then_ ?_ | refine CW.block ?_ | refine CW.skip ?_ | refine CW.ret ?_ | refine PW.then_ret ?_ | refine PW.block_ret ?_ | refine Cut.ret ?_ | refine Rnd.ret ?_ | refine PW.block_normal ?_ | refine CW.exit ?_ | refine PW.then_exit ?_ | refine PW.block_hit ?_ | refine PW.block_miss rfl ?_ | refine Cut.exit ?_ | refine Rnd.exit ?_)
  refine CW.cond_false rfl ?_
  repeat (first | refine CW.seq ?_ | refine PW.then_ ?_ | refine CW.block ?_ | refine CW.skip ?_ | refine CW.ret ?_ | refine PW.then_ret ?_ | refine PW.block_ret ?_ | refine Cut.ret ?_ | refine Rnd.ret ?_ | refine PW.block_normal ?_ | refine CW.exit ?_ | refine PW.then_exit ?_ | refine PW.block_hit ?_ | refine PW.block_miss rfl ?_ | refine Cut.exit ?_ | refine Rnd.exit ?_)
  refine CW.draw T.mixed ?_
  refine A_take (i := 0) (some 15) rfl rfl (by kernel_rfl) (by kernel_rfl) (by kernel_rfl) rfl (ps_move rfl) ?_
  refine A_take (i := 1) (some 16) rfl rfl (by kernel_rfl) (by kernel_rfl) (by kernel_rfl) rfl (ps_move rfl) ?_
  refine A_take (i := 2) (some 17) rfl rfl (by kernel_rfl) (by kernel_rfl) (by kernel_rfl) rfl (ps_len_sl T.un27 rfl) ?_
  refine A_take (i := 3) (some 18) rfl rfl (by kernel_rfl) (by kernel_rfl) (by kernel_rfl) rfl (ps_to (u := .int .i64 (min a0.length 64 : Nat)) (by congr 1; omega) (ps_min rfl rfl)) ?_
  refine A_take (i := 4) (some 19) rfl rfl (by kernel_rfl) (by kernel_rfl) (by kernel_rfl) rfl (ps_sl_h T.un27 T.sz5 rfl rfl (by omega) (by omega)) ?_
  refine A_take (i := 5) (some 20) rfl rfl (by kernel_rfl) (by kernel_rfl) (by kernel_rfl) rfl (ps_move rfl) ?_
  refine A_take (i := 6) (some 21) rfl rfl (by kernel_rfl) (by kernel_rfl) (by kernel_rfl) rfl (ps_move rfl) ?_
  refine A_take (i := 7) (some 22) rfl rfl (by kernel_rfl) (by kernel_rfl) (by kernel_rfl) rfl (ps_len_sl T.un27 rfl) ?_
  refine A_take (i := 8) (some 23) rfl rfl (by kernel_rfl) (by kernel_rfl) (by kernel_rfl) rfl (ps_to (u := .int .i64 (min b0.length 64 : Nat)) (by congr 1; omega) (ps_min rfl rfl)) ?_
  refine A_take (i := 9) (some 24) rfl rfl (by kernel_rfl) (by kernel_rfl) (by kernel_rfl) rfl (ps_sl_h T.un27 T.sz5 rfl rfl (by omega) (by omega)) ?_
  refine A_take (i := 10) (some 0) rfl rfl (by kernel_rfl) (by kernel_rfl) (by kernel_rfl) rfl (ps_assign rfl) ?_
  refine A_take (i := 11) (some 1) rfl rfl (by kernel_rfl) (by kernel_rfl) (by kernel_rfl) rfl (ps_assign rfl) ?_
  refine A_done (by kernel_rfl) ?_
  skip
  repeat (first | refine CW.seq ?_ | refine PW.then_ ?_ | refine CW.block ?_ | refine CW.skip ?_ | refine CW.ret ?_ | refine PW.then_ret ?_ | refine PW.block_ret ?_ | refine Cut.ret ?_ | refine Rnd.ret ?_ | refine PW.block_normal ?_ | refine CW.exit ?_ | refine PW.then_exit ?_ | refine PW.block_hit ?_ | refine PW.block_miss rfl ?_ | refine Cut.exit ?_ | refine Rnd.exit ?_)
  refine CW.region ?_
  refine LE (os_call (New_yes 1 (by decide) (by decide)) Try.func17 (by decide +kernel) rfl rfl (List.Perm.refl _)) ?_
  rintro _ _ ⟨_, ⟨p, rfl, rfl⟩, rfl⟩
  refine L1 (ps_assign rfl).os ?_
  refine LW.nil ?_
  repeat (first | refine CW.seq ?_ | refine PW.then_ ?_ | refine CW.block ?_ | refine CW.skip ?_ | refine CW.ret ?_ | refine PW.then_ret ?_ | refine PW.block_ret ?_ | refine Cut.ret ?_ | refine Rnd.ret ?_ | refine PW.block_normal ?_ | refine CW.exit ?_ | refine PW.then_exit ?_ | refine PW.block_hit ?_ | refine PW.block_miss rfl ?_ | refine Cut.exit ?_ | refine Rnd.exit ?_)
  refine CW.region ?_
  refine L1 (ps_move rfl).os ?_
  refine L1 (ps_move rfl).os ?_
  refine LE (os_call (Write_to w1 ha (by decide) (by decide) (by decide)) Try.func18 (by decide +kernel) rfl rfl (List.Perm.refl _)) ?_
  rintro _ _ ⟨_, ⟨rfl, rfl⟩, rfl⟩
  refine LW.nil ?_
  repeat (first | refine CW.seq ?_ | refine PW.then_ ?_ | refine CW.block ?_ | refine CW.skip ?_ | refine CW.ret ?_ | refine PW.then_ret ?_ | refine PW.block_ret ?_ | refine Cut.ret ?_ | refine Rnd.ret ?_ | refine PW.block_normal ?_ | refine CW.exit ?_ | refine PW.then_exit ?_ | refine PW.block_hit ?_ | refine PW.block_miss rfl ?_ | refine Cut.exit ?_ | refine Rnd.exit ?_)
  refine CW.region ?_
  refine L1 (ps_move rfl).os ?_
  refine LE (os_call (Flush_to w2 k1 (by omega)) Try.func23 (by decide +kernel) rfl rfl (List.Perm.refl _)) ?_
  rintro _ _ ⟨_, ⟨rfl, rfl⟩, rfl⟩
  refine LW.nil ?_
  repeat (first | refine CW.seq ?_ | refine PW.then_ ?_ | refine CW.block ?_ | refine CW.skip ?_ | refine CW.ret ?_ | refine PW.then_ret ?_ | refine PW.block_ret ?_ | refine Cut.ret ?_ | refine Rnd.ret ?_ | refine PW.block_normal ?_ | refine CW.exit ?_ | refine PW.then_exit ?_ | refine PW.block_hit ?_ | refine PW.block_miss rfl ?_ | refine Cut.exit ?_ | refine Rnd.exit ?_)
  refine CW.region ?_
  refine L1 (ps_move rfl).os ?_
  refine L1 (ps_move rfl).os ?_
  refine LE (os_call (Write_to w3 hb (by omega) (by omega) (by omega)) Try.func18 (by decide +kernel) rfl rfl (List.Perm.refl _)) ?_
  rintro _ _ ⟨_, ⟨rfl, rfl⟩, rfl⟩
  refine LW.nil ?_
  repeat (first | refine CW.seq ?_ | refine PW.then_ ?_ | refine CW.block ?_ | refine CW.skip ?_ | refine CW.ret ?_ | refine PW.then_ret ?_ | refine PW.block_ret ?_ | refine Cut.ret ?_ | refine Rnd.ret ?_ | refine PW.block_normal ?_ | refine CW.exit ?_ | refine PW.then_exit ?_ | refine PW.block_hit ?_ | refine PW.block_miss rfl ?_ | refine Cut.exit ?_ | refine Rnd.exit ?_)
  refine CW.region ?_
  refine L1 (ps_move rfl).os ?_
  refine L1 (ps_move rfl).os ?_
  refine LE (os_call (Crash_spec p st3 k3 (by omega) 1 (by decide) 0 cut) Try.func19 (by decide +kernel) rfl rfl (List.Perm.refl _)) ?_
  rintro _ _ ⟨_, ⟨rfl, rfl⟩, rfl⟩
  refine LW.nil ?_
  repeat (first | refine CW.seq ?_ | refine PW.then_ ?_ | refine CW.block ?_ | refine CW.skip ?_ | refine CW.ret ?_ | refine PW.then_ret ?_ | refine PW.block_ret ?_ | refine Cut.ret ?_ | refine Rnd.ret ?_ | refine PW.block_normal ?_ | refine CW.exit ?_ | refine PW.then_exit ?_ | refine PW.block_hit ?_ | refine PW.block_miss rfl ?_ | refine Cut.exit ?_ | refine Rnd.exit ?_)
  refine CW.region ?_
  refine L1 (ps_move rfl).os ?_
  refine LE (os_call (rd p) Try.func20 (by decide +kernel) rfl rfl (List.Perm.refl _)) ?_
  rintro _ _ ⟨_, ⟨b, rfl, rfl⟩, rfl⟩
  refine L1 (ps_move rfl).os ?_
  refine L1 (ps_extract rfl rfl).os ?_
  refine L1 (ps_extract rfl rfl).os ?_
  refine L1 (ps_assign rfl).os ?_
  refine L1 (ps_assign rfl).os ?_
  refine LW.nil ?_
  refine PW.then_ ?_
  refine CW.cutM (α := Nat × Nat) [10, 11, 42, 43] (fun _ => True) (fun q => [(10, .slice (some ⟨q.1, 0, none⟩) 64 64), (11, .slice (some ⟨q.2, 0, none⟩) 64 64)])
    (fun q => cb q.1 5 (bv (List.replicate 64 0)) :: cb q.2 5 (bv (List.replicate 64 0)) :: cb b 77 (bv ((pad 64 bs).take (clampN cut) ++ (pad 64 xs).drop (clampN cut))) :: DiskAt p (st3.crash 1 0 cut) :: bag (blks W) :: F) ?_ ?_
  · refine CW.draw T.mixed ?_
    refine A_branch (rs := [0, 1]) (by kernel_rfl) (by simp) ?_
    refine AR.consE (i := 0) (some 42) rfl rfl rfl (os_make T.un27 T.ti5 rfl rfl rfl (by omega) (by omega) (by omega) (by omega)) ?_ ?_
    · rintro _ _ ⟨b42, rfl, rfl⟩
      refine A_take (i := 2) (some 10) rfl rfl (by kernel_rfl) (by kernel_rfl) (by kernel_rfl) rfl (ps_assign rfl) ?_
      refine A_branch (rs := [1]) (by kernel_rfl) (by simp) ?_
      refine AR.consE (i := 1) (some 43) rfl rfl rfl (os_make T.un27 T.ti5 rfl rfl rfl (by omega) (by omega) (by omega) (by omega)) ?_ ?_
      · rintro _ _ ⟨b43, rfl, rfl⟩
        refine A_take (i := 3) (some 11) rfl rfl (by kernel_rfl) (by kernel_rfl) (by kernel_rfl) rfl (ps_assign rfl) ?_
        refine A_done (by kernel_rfl) ?_
        refine Meet.cut (b42, b43) trivial (by repeat (first | (with_reducible exact Ag.refl _ _) | (with_reducible apply Ag.pu0) | ((with_reducible refine Ag.pu _ ?_ ?_); · exact rfl) | ((with_reducible refine Ag.mix ?_ ?_); · exact rfl) | ((with_reducible refine Ag.pus ?_ ?_); · exact rfl))) ⟨rfl, rfl, trivial⟩ (by repeat (first | exact Ent.refl _ | (apply Ent.cons; · repeat (first | exact pk_head _ _ | apply pk_tail)) | apply Ent.skip))
      exact AR.nil
    refine AR.consE (i := 1) (some 43) rfl rfl rfl (os_make T.un27 T.ti5 rfl rfl rfl (by omega) (by omega) (by omega) (by omega)) ?_ ?_
    · rintro _ _ ⟨b43, rfl, rfl⟩
      refine A_branch (rs := [0]) (by kernel_rfl) (by simp) ?_
      refine AR.consE (i := 0) (some 42) rfl rfl rfl (os_make T.un27 T.ti5 rfl rfl rfl (by omega) (by omega) (by omega) (by omega)) ?_ ?_
      · rintro _ _ ⟨b42, rfl, rfl⟩
        refine A_take (i := 2) (some 10) rfl rfl (by kernel_rfl) (by kernel_rfl) (by kernel_rfl) rfl (ps_assign rfl) ?_
        refine A_take (i := 3) (some 11) rfl rfl (by kernel_rfl) (by kernel_rfl) (by kernel_rfl) rfl (ps_assign rfl) ?_
        refine A_done (by kernel_rfl) ?_
        refine Meet.cut (b42, b43) trivial (by repeat (first | (with_reducible exact Ag.refl _ _) | (with_reducible apply Ag.pu0) | ((with_reducible refine Ag.pu _ ?_ ?_); · exact rfl) | ((with_reducible refine Ag.mix ?_ ?_); · exact rfl) | ((with_reducible refine Ag.pus ?_ ?_); · exact rfl))) ⟨rfl, rfl, trivial⟩ (by repeat (first | exact Ent.refl _ | (apply Ent.cons; · repeat (first | exact pk_head _ _ | apply pk_tail)) | apply Ent.skip))
      exact AR.nil
    exact AR.nil
  rintro ⟨x, y⟩ g _
  dsimp only
  repeat (first | refine CW.seq ?_ | refine PW.then_ ?_ | refine CW.block ?_ | refine CW.skip ?_ | refine CW.ret ?_ | refine PW.then_ret ?_ | refine PW.block_ret ?_ | refine Cut.ret ?_ | refine Rnd.ret ?_ | refine PW.block_normal ?_ | refine CW.exit ?_ | refine PW.then_exit ?_ | refine PW.block_hit ?_ | refine PW.block_miss rfl ?_ | refine Cut.exit ?_ | refine Rnd.exit ?_)
  refine CW.region ?_
  refine L1 (ps_move rfl).os ?_
  refine L1 (ps_move rfl).os ?_
  refine L1 (os_cb (spl_pad0 xs ha64) <| os_copy (news := bv xs) (by repeat (first | exact pk_head _ _ | apply pk_tail)) T.un27 T.sz5 rfl rfl (by rw [length_bv]; simp; omega) (ha.src (by repeat (first | exact pk_head _ _ | apply pk_tail))) (bv_one _) (.inr (by simp; omega))) ?_
  refine LW.nil ?_
  repeat (first | refine CW.seq ?_ | refine PW.then_ ?_ | refine CW.block ?_ | refine CW.skip ?_ | refine CW.ret ?_ | refine PW.then_ret ?_ | refine PW.block_ret ?_ | refine Cut.ret ?_ | refine Rnd.ret ?_ | refine PW.block_normal ?_ | refine CW.exit ?_ | refine PW.then_exit ?_ | refine PW.block_hit ?_ | refine PW.block_miss rfl ?_ | refine Cut.exit ?_ | refine Rnd.exit ?_)
  refine CW.region ?_
  refine L1 (ps_move rfl).os ?_
  refine L1 (ps_move rfl).os ?_
  refine L1 (os_cb (spl_pad0 bs hb64) <| os_copy (news := bv bs) (by repeat (first | exact pk_head _ _ | apply pk_tail)) T.un27 T.sz5 rfl rfl (by rw [length_bv]; simp; omega) (hb.src (by repeat (first | exact pk_head _ _ | apply pk_tail))) (bv_one _) (.inr (by simp; omega))) ?_
  refine LW.nil ?_
  repeat (first | refine CW.seq ?_ | refine PW.then_ ?_ | refine CW.block ?_ | refine CW.skip ?_ | refine CW.ret ?_ | refine PW.then_ret ?_ | refine PW.block_ret ?_ | refine Cut.ret ?_ | refine Rnd.ret ?_ | refine PW.block_normal ?_ | refine CW.exit ?_ | refine PW.then_exit ?_ | refine PW.block_hit ?_ | refine PW.block_miss rfl ?_ | refine Cut.exit ?_ | refine Rnd.exit ?_)
  refine CW.region ?_
  refine L1 (ps_move rfl).os ?_
  refine L1 (ps_max rfl rfl).os ?_
  refine L1 (ps_to (u := .int .i64 (clampN cut : Nat)) (by unfold clampN; congr 1; omega) (ps_min rfl rfl)).os ?_
  refine L1 (ps_assign rfl).os ?_
  refine LW.nil ?_
  repeat (first | refine CW.seq ?_ | refine PW.then_ ?_ | refine CW.block ?_ | refine CW.skip ?_ | refine CW.ret ?_ | refine PW.then_ret ?_ | refine PW.block_ret ?_ | refine Cut.ret ?_ | refine Rnd.ret ?_ | refine PW.block_normal ?_ | refine CW.exit ?_ | refine PW.then_exit ?_ | refine PW.block_hit ?_ | refine PW.block_miss rfl ?_ | refine Cut.exit ?_ | refine Rnd.exit ?_)
  have hgl : ((pad 64 bs).take (clampN cut) ++ (pad 64 xs).drop (clampN cut)).length = 64 := by simp [hpa, hpb]; omega
  have hs1 : ((bv ((pad 64 bs).take (clampN cut) ++ (pad 64 xs).drop (clampN cut))).drop 0).take (bv ((pad 64 bs).take (clampN cut) ++ (pad 64 xs).drop (clampN cut))).length = bv ((pad 64 bs).take (clampN cut) ++ (pad 64 xs).drop (clampN cut)) := by rw [List.drop_zero, List.take_length]
  have hl2 : ((pad 64 bs).take (clampN cut)).length = ((clampN cut : Nat) : Int).toNat := by simp [hpb]; omega
  have hs2 : ((bv (pad 64 bs)).drop 0).take (bv ((pad 64 bs).take (clampN cut))).length = bv ((pad 64 bs).take (clampN cut)) := by rw [bv_take, List.drop_zero]; simp [hpb, Nat.min_eq_left hcl]
  have hl3 : ((pad 64 xs).drop (clampN cut)).length = 64 - ((clampN cut : Nat) : Int).toNat := by simp [hpa]
  have hs3 : ((bv (pad 64 xs)).drop (cutOff 0 ((clampN cut : Nat) : Int).toNat 64 1 ((clampN cut : Nat) : Int).toNat)).take (bv ((pad 64 xs).drop (clampN cut))).length = bv ((pad 64 xs).drop (clampN cut)) := by
    by_cases h : clampN cut = 64
    · have h0 : (pad 64 xs).drop (clampN cut) = [] := List.drop_eq_nil_of_le (by omega)
      rw [h0]; simp [bv]
    · rw [Int.toNat_natCast, cutOff_ne (by omega), Nat.zero_add, Nat.mul_one, bv_drop]
      exact List.take_length
  have hml : ((pad 64 bs).take (clampN cut)).length + ((pad 64 xs).drop (clampN cut)).length ≤ maxLen := by rw [hl2, hl3]; unfold maxLen; omega
  refine CW.draw T.mixed ?_
  refine A_take (i := 0) (some 53) rfl rfl (by kernel_rfl) (by kernel_rfl) (by kernel_rfl) rfl (ps_move rfl) ?_
  refine A_take (i := 1) (some 54) rfl rfl (by kernel_rfl) (by kernel_rfl) (by kernel_rfl) rfl (ps_t (ps_eql rfl rfl) (rfl)) ?_
  refine A_take (i := 2) (some 55) rfl rfl (by kernel_rfl) (by kernel_rfl) (by kernel_rfl) rfl (ps_move rfl) ?_
  refine A_take (i := 3) (some 56) rfl rfl (by kernel_rfl) (by kernel_rfl) (by kernel_rfl) rfl (ps_move rfl) ?_
  refine A_take (i := 5) (some 58) rfl rfl (by kernel_rfl) (by kernel_rfl) (by kernel_rfl) rfl (ps_move rfl) ?_
  refine A_take (i := 6) (some 59) rfl rfl (by kernel_rfl) (by kernel_rfl) (by kernel_rfl) rfl (ps_move rfl) ?_
  refine A_take (i := 7) (some 60) rfl rfl (by kernel_rfl) (by kernel_rfl) (by kernel_rfl) rfl (ps_sl_h T.un27 T.sz5 rfl rfl (by omega) (by omega)) ?_
  refine A_take (i := 9) (some 62) rfl rfl (by kernel_rfl) (by kernel_rfl) (by kernel_rfl) rfl (ps_move rfl) ?_
  refine A_take (i := 10) (some 63) rfl rfl (by kernel_rfl) (by kernel_rfl) (by kernel_rfl) rfl (ps_move rfl) ?_
  refine A_take (i := 11) (some 64) rfl rfl (by kernel_rfl) (by kernel_rfl) (by kernel_rfl) rfl (ps_sl_l T.un27 T.sz5 rfl rfl (by omega) (by omega)) ?_
  refine A_branch (rs := [4, 8, 12]) (by kernel_rfl) (by simp) ?_
  refine AR.cons1 (i := 4) (some 57) rfl rfl rfl (os_str ((pad 64 bs).take (clampN cut) ++ (pad 64 xs).drop (clampN cut)) T.un27 T.un5 T.un9 rfl hgl (Src.cb (b := b) (by repeat (first | exact pk_head _ _ | apply pk_tail)) hs1)) ?_ ?_
  · skip
    refine A_branch (rs := [8, 12]) (by kernel_rfl) (by simp) ?_
    refine AR.cons1 (i := 8) (some 61) rfl rfl rfl (os_str ((pad 64 bs).take (clampN cut)) T.un27 T.un5 T.un9 rfl hl2 (Src.cb (b := y) (by repeat (first | exact pk_head _ _ | apply pk_tail)) hs2)) ?_ ?_
    · skip
      refine A_branch (rs := [12]) (by kernel_rfl) (by simp) ?_
      refine AR.cons1 (i := 12) (some 65) rfl rfl rfl (os_str ((pad 64 xs).drop (clampN cut)) T.un27 T.un5 T.un9 rfl hl3 (Src.cb (b := x) (by repeat (first | exact pk_head _ _ | apply pk_tail)) hs3)) ?_ ?_
      · skip
        refine A_take (i := 13) (some 66) rfl rfl (by kernel_rfl) (by kernel_rfl) (by kernel_rfl) rfl (ps_strV_add _ _ rfl rfl hml) ?_
        refine A_take (i := 14) (some 67) rfl rfl (by kernel_rfl) (by kernel_rfl) (by kernel_rfl) rfl (ps_t (ps_strV_eql _ _ rfl rfl) rfl) ?_
        refine A_take (i := 15) (some 68) rfl rfl (by kernel_rfl) (by kernel_rfl) (by kernel_rfl) rfl (ps_pick_t rfl rfl) ?_
        refine A_take (i := 16) (some 6) rfl rfl (by kernel_rfl) (by kernel_rfl) (by kernel_rfl) rfl (ps_assign rfl) ?_
        refine A_done (by kernel_rfl) ?_
        repeat (first | refine CW.seq ?_ | refine PW.then_ ?_ | refine CW.block ?_ | refine CW.skip ?_ | refine CW.ret ?_ | refine PW.then_ret ?_ | refine PW.block_ret ?_ | refine Cut.ret ?_ | refine Rnd.ret ?_ | refine PW.block_normal ?_ | refine CW.exit ?_ | refine PW.then_exit ?_ | refine PW.block_hit ?_ | refine PW.block_miss rfl ?_ | refine Cut.exit ?_ | refine Rnd.exit ?_)
        exact Fin.ret1 (v := .bool true) rfl [bag (blks W)] rfl ⟨rfl, rfl⟩ (by repeat (first | exact Ent.refl _ | (apply Ent.cons; · repeat (first | exact pk_head _ _ | apply pk_tail)) | apply Ent.skip))
      exact AR.nil
    refine AR.cons1 (i := 12) (some 65) rfl rfl rfl (os_str ((pad 64 xs).drop (clampN cut)) T.un27 T.un5 T.un9 rfl hl3 (Src.cb (b := x) (by repeat (first | exact pk_head _ _ | apply pk_tail)) hs3)) ?_ ?_
    · skip
      refine A_branch (rs := [8]) (by kernel_rfl) (by simp) ?_
      refine AR.cons1 (i := 8) (some 61) rfl rfl rfl (os_str ((pad 64 bs).take (clampN cut)) T.un27 T.un5 T.un9 rfl hl2 (Src.cb (b := y) (by repeat (first | exact pk_head _ _ | apply pk_tail)) hs2)) ?_ ?_
      · skip
        refine A_take (i := 13) (some 66) rfl rfl (by kernel_rfl) (by kernel_rfl) (by kernel_rfl) rfl (ps_strV_add _ _ rfl rfl hml) ?_
        refine A_take (i := 14) (some 67) rfl rfl (by kernel_rfl) (by kernel_rfl) (by kernel_rfl) rfl (ps_t (ps_strV_eql _ _ rfl rfl) rfl) ?_
        refine A_take (i := 15) (some 68) rfl rfl (by kernel_rfl) (by kernel_rfl) (by kernel_rfl) rfl (ps_pick_t rfl rfl) ?_
        refine A_take (i := 16) (some 6) rfl rfl (by kernel_rfl) (by kernel_rfl) (by kernel_rfl) rfl (ps_assign rfl) ?_
        refine A_done (by kernel_rfl) ?_
        repeat (first | refine CW.seq ?_ | refine PW.then_ ?_ | refine CW.block ?_ | refine CW.skip ?_ | refine CW.ret ?_ | refine PW.then_ret ?_ | refine PW.block_ret ?_ | refine Cut.ret ?_ | refine Rnd.ret ?_ | refine PW.block_normal ?_ | refine CW.exit ?_ | refine PW.then_exit ?_ | refine PW.block_hit ?_ | refine PW.block_miss rfl ?_ | refine Cut.exit ?_ | refine Rnd.exit ?_)
        exact Fin.ret1 (v := .bool true) rfl [bag (blks W)] rfl ⟨rfl, rfl⟩ (by repeat (first | exact Ent.refl _ | (apply Ent.cons; · repeat (first | exact pk_head _ _ | apply pk_tail)) | apply Ent.skip))
      exact AR.nil
    exact AR.nil
  refine AR.cons1 (i := 8) (some 61) rfl rfl rfl (os_str ((pad 64 bs).take (clampN cut)) T.un27 T.un5 T.un9 rfl hl2 (Src.cb (b := y) (by repeat (first | exact pk_head _ _ | apply pk_tail)) hs2)) ?_ ?_
  · skip
    refine A_branch (rs := [4, 12]) (by kernel_rfl) (by simp) ?_
    refine AR.cons1 (i := 4) (some 57) rfl rfl rfl (os_str ((pad 64 bs).take (clampN cut) ++ (pad 64 xs).drop (clampN cut)) T.un27 T.un5 T.un9 rfl hgl (Src.cb (b := b) (by repeat (first | exact pk_head _ _ | apply pk_tail)) hs1)) ?_ ?_
    · skip
      refine A_branch (rs := [12]) (by kernel_rfl) (by simp) ?_
      refine AR.cons1 (i := 12) (some 65) rfl rfl rfl (os_str ((pad 64 xs).drop (clampN cut)) T.un27 T.un5 T.un9 rfl hl3 (Src.cb (b := x) (by repeat (first | exact pk_head _ _ | apply pk_tail)) hs3)) ?_ ?_
      · skip
        refine A_take (i := 13) (some 66) rfl rfl (by kernel_rfl) (by kernel_rfl) (by kernel_rfl) rfl (ps_strV_add _ _ rfl rfl hml) ?_
        refine A_take (i := 14) (some 67) rfl rfl (by kernel_rfl) (by kernel_rfl) (by kernel_rfl) rfl (ps_t (ps_strV_eql _ _ rfl rfl) rfl) ?_
        refine A_take (i := 15) (some 68) rfl rfl (by kernel_rfl) (by kernel_rfl) (by kernel_rfl) rfl (ps_pick_t rfl rfl) ?_
        refine A_take (i := 16) (some 6) rfl rfl (by kernel_rfl) (by kernel_rfl) (by kernel_rfl) rfl (ps_assign rfl) ?_
        refine A_done (by kernel_rfl) ?_
        repeat (first | refine CW.seq ?_ | refine PW.then_ ?_ | refine CW.block ?_ | refine CW.skip ?_ | refine CW.ret ?_ | refine PW.then_ret ?_ | refine PW.block_ret ?_ | refine Cut.ret ?_ | refine Rnd.ret ?_ | refine PW.block_normal ?_ | refine CW.exit ?_ | refine PW.then_exit ?_ | refine PW.block_hit ?_ | refine PW.block_miss rfl ?_ | refine Cut.exit ?_ | refine Rnd.exit ?_)
        exact Fin.ret1 (v := .bool true) rfl [bag (blks W)] rfl ⟨rfl, rfl⟩ (by repeat (first | exact Ent.refl _ | (apply Ent.cons; · repeat (first | exact pk_head _ _ | apply pk_tail)) | apply Ent.skip))
      exact AR.nil
    refine AR.cons1 (i := 12) (some 65) rfl rfl rfl (os_str ((pad 64 xs).drop (clampN cut)) T.un27 T.un5 T.un9 rfl hl3 (Src.cb (b := x) (by repeat (first | exact pk_head _ _ | apply pk_tail)) hs3)) ?_ ?_
    · skip
      refine A_take (i := 13) (some 66) rfl rfl (by kernel_rfl) (by kernel_rfl) (by kernel_rfl) rfl (ps_strV_add _ _ rfl rfl hml) ?_
      refine A_branch (rs := [4]) (by kernel_rfl) (by simp) ?_
      refine AR.cons1 (i := 4) (some 57) rfl rfl rfl (os_str ((pad 64 bs).take (clampN cut) ++ (pad 64 xs).drop (clampN cut)) T.un27 T.un5 T.un9 rfl hgl (Src.cb (b := b) (by repeat (first | exact pk_head _ _ | apply pk_tail)) hs1)) ?_ ?_
      · skip
        refine A_take (i := 14) (some 67) rfl rfl (by kernel_rfl) (by kernel_rfl) (by kernel_rfl) rfl (ps_t (ps_strV_eql _ _ rfl rfl) rfl) ?_
        refine A_take (i := 15) (some 68) rfl rfl (by kernel_rfl) (by kernel_rfl) (by kernel_rfl) rfl (ps_pick_t rfl rfl) ?_
        refine A_take (i := 16) (some 6) rfl rfl (by kernel_rfl) (by kernel_rfl) (by kernel_rfl) rfl (ps_assign rfl) ?_
        refine A_done (by kernel_rfl) ?_
        repeat (first | refine CW.seq ?_ | refine PW.then_ ?_ | refine CW.block ?_ | refine CW.skip ?_ | refine CW.ret ?_ | refine PW.then_ret ?_ | refine PW.block_ret ?_ | refine Cut.ret ?_ | refine Rnd.ret ?_ | refine PW.block_normal ?_ | refine CW.exit ?_ | refine PW.then_exit ?_ | refine PW.block_hit ?_ | refine PW.block_miss rfl ?_ | refine Cut.exit ?_ | refine Rnd.exit ?_)
        exact Fin.ret1 (v := .bool true) rfl [bag (blks W)] rfl ⟨rfl, rfl⟩ (by repeat (first | exact Ent.refl _ | (apply Ent.cons; · repeat (first | exact pk_head _ _ | apply pk_tail)) | apply Ent.skip))
      exact AR.nil
    exact AR.nil
  refine AR.cons1 (i := 12) (some 65) rfl rfl rfl (os_str ((pad 64 xs).drop (clampN cut)) T.un27 T.un5 T.un9 rfl hl3 (Src.cb (b := x) (by repeat (first | exact pk_head _ _ | apply pk_tail)) hs3)) ?_ ?_
  · skip
    refine A_branch (rs := [4, 8]) (by kernel_rfl) (by simp) ?_
    refine AR.cons1 (i := 4) (some 57) rfl rfl rfl (os_str ((pad 64 bs).take (clampN cut) ++ (pad 64 xs).drop (clampN cut)) T.un27 T.un5 T.un9 rfl hgl (Src.cb (b := b) (by repeat (first | exact pk_head _ _ | apply pk_tail)) hs1)) ?_ ?_
    · skip
      refine A_branch (rs := [8]) (by kernel_rfl) (by simp) ?_
      refine AR.cons1 (i := 8) (some 61) rfl rfl rfl (os_str ((pad 64 bs).take (clampN cut)) T.un27 T.un5 T.un9 rfl hl2 (Src.cb (b := y) (by repeat (first | exact pk_head _ _ | apply pk_tail)) hs2)) ?_ ?_
      · skip
        refine A_take (i := 13) (some 66) rfl rfl (by kernel_rfl) (by kernel_rfl) (by kernel_rfl) rfl (ps_strV_add _ _ rfl rfl hml) ?_
        refine A_take (i := 14) (some 67) rfl rfl (by kernel_rfl) (by kernel_rfl) (by kernel_rfl) rfl (ps_t (ps_strV_eql _ _ rfl rfl) rfl) ?_
        refine A_take (i := 15) (some 68) rfl rfl (by kernel_rfl) (by kernel_rfl) (by kernel_rfl) rfl (ps_pick_t rfl rfl) ?_
        refine A_take (i := 16) (some 6) rfl rfl (by kernel_rfl) (by kernel_rfl) (by kernel_rfl) rfl (ps_assign rfl) ?_
        refine A_done (by kernel_rfl) ?_
        repeat (first | refine CW.seq ?_ | refine PW.then_ ?_ | refine CW.block ?_ | refine CW.skip ?_ | refine CW.ret ?_ | refine PW.then_ret ?_ | refine PW.block_ret ?_ | refine Cut.ret ?_ | refine Rnd.ret ?_ | refine PW.block_normal ?_ | refine CW.exit ?_ | refine PW.then_exit ?_ | refine PW.block_hit ?_ | refine PW.block_miss rfl ?_ | refine Cut.exit ?_ | refine Rnd.exit ?_)
        exact Fin.ret1 (v := .bool true) rfl [bag (blks W)] rfl ⟨rfl, rfl⟩ (by repeat (first | exact Ent.refl _ | (apply Ent.cons; · repeat (first | exact pk_head _ _ | apply pk_tail)) | apply Ent.skip))
      exact AR.nil
    refine AR.cons1 (i := 8) (some 61) rfl rfl rfl (os_str ((pad 64 bs).take (clampN cut)) T.un27 T.un5 T.un9 rfl hl2 (Src.cb (b := y) (by repeat (first | exact pk_head _ _ | apply pk_tail)) hs2)) ?_ ?_
    · skip
      refine A_take (i := 13) (some 66) rfl rfl (by kernel_rfl) (by kernel_rfl) (by kernel_rfl) rfl (ps_strV_add _ _ rfl rfl hml) ?_
      refine A_branch (rs := [4]) (by kernel_rfl) (by simp) ?_
      refine AR.cons1 (i := 4) (some 57) rfl rfl rfl (os_str ((pad 64 bs).take (clampN cut) ++ (pad 64 xs).drop (clampN cut)) T.un27 T.un5 T.un9 rfl hgl (Src.cb (b := b) (by repeat (first | exact pk_head _ _ | apply pk_tail)) hs1)) ?_ ?_
      · skip
        refine A_take (i := 14) (some 67) rfl rfl (by kernel_rfl) (by kernel_rfl) (by kernel_rfl) rfl (ps_t (ps_strV_eql _ _ rfl rfl) rfl) ?_
        refine A_take (i := 15) (some 68) rfl rfl (by kernel_rfl) (by kernel_rfl) (by kernel_rfl) rfl (ps_pick_t rfl rfl) ?_
        refine A_take (i := 16) (some 6) rfl rfl (by kernel_rfl) (by kernel_rfl) (by kernel_rfl) rfl (ps_assign rfl) ?_
        refine A_done (by kernel_rfl) ?_
        repeat (first | refine CW.seq ?_ | refine PW.then_ ?_ | refine CW.block ?_ | refine CW.skip ?_ | refine CW.ret ?_ | refine PW.then_ret ?_ | refine PW.block_ret ?_ | refine Cut.ret ?_ | refine Rnd.ret ?_ | refine PW.block_normal ?_ | refine CW.exit ?_ | refine PW.then_exit ?_ | refine PW.block_hit ?_ | refine PW.block_miss rfl ?_ | refine Cut.exit ?_ | refine Rnd.exit ?_)
        exact Fin.ret1 (v := .bool true) rfl [bag (blks W)] rfl ⟨rfl, rfl⟩ (by repeat (first | exact Ent.refl _ | (apply Ent.cons; · repeat (first | exact pk_head _ _ | apply pk_tail)) | apply Ent.skip))
      exact AR.nil
    exact AR.nil
  exact AR.nil

namespace diskTorn
open Go.ChangeShapes Go.WideShapes Go.ChangeAt Go.RowKit
theorem own : ownKnob Try.prog.godebug = none := by kernel_rfl
theorem laidOut : laidOutB Try.prog = true := by kernel_rfl
set_option maxRecDepth 100000 in
theorem lifted (os : Os) (started : os.Started) (H : Type) (enc : TypeId × Value → H) :
    ReturnsInHanded {} Try.checked os 4 .any (Rows.diskTornSpec.pre6 enc Try.prog Try.f4 Rows.diskTornRow.domain false) (Rows.diskTornSpec.post enc Try.prog Try.f4 false true false false) := by
  refine returnsInHanded_of_change (C := Try.checked) own started (by kernel_rfl) Try.func4
    (ChangeSpec.witness6 (enc := enc) (C := Try.checked) false ⟨#[], #[(Value.slice none 0 0), (Value.slice none 0 0), (Value.int .i64 0)], []⟩ 8 (by kernel_rfl) (by kernel_rfl) (by kernel_rfl) (by kernel_rfl)) ?_
  intro W base args ds gs before hval0 hW hcnd _
  have hval : ∀ (j : Nat) t v, Try.f4.params[j]? = some t → args[j]? = some v → Value.okWide Try.prog W .any base t v := hval0
  have hW' := hW
  obtain ⟨p, q, hA0, hV, rfl, hfz, hnd⟩ := hW
  have hA : DataW.TrodAll enc Try.prog W 0 (fun _ => true) true Try.f4.params.toList args.toList ds p := hA0
  rw [Try.params4] at hA hval
  obtain ⟨v0, vs0, d0, ds0, p0, q0, hargs, rfl, rfl, h0, r0⟩ := trodAll_cons hA
  obtain ⟨v1, vs1, d1, ds1, p1, q1, rfl, rfl, rfl, h1, r1⟩ := trodAll_cons r0
  obtain ⟨v2, vs2, d2, ds2, p2, q2, rfl, rfl, rfl, h2, r2⟩ := trodAll_cons r1
  obtain ⟨rfl, rfl, rfl⟩ := trodAll_nil r2
  obtain rfl : args = #[v0, v1, v2] := by cases args; simp_all
  obtain ⟨rfl, rfl⟩ := trodVars_none hV
  obtain ⟨_, _, _, rfl⟩ := okWide_slice T.un27 (hval 0 27 v0 rfl rfl)
  obtain ⟨fu0, hf0⟩ := h0
  obtain ⟨a0, b0, w0⟩ := open_bytes T.un27 T.un5 T.co5 hf0
  obtain ⟨_, _, _, rfl⟩ := okWide_slice T.un27 (hval 1 27 v1 rfl rfl)
  obtain ⟨fu1, hf1⟩ := h1
  obtain ⟨a1, b1, w1⟩ := open_bytes T.un27 T.un5 T.co5 hf1
  obtain ⟨a2, rfl, rfl, rfl, wf2⟩ := open_int T.un3 (hval 2 3 v2 rfl rfl) h2
  have w2 := bounds_i64' wf2
  simp only [List.append_nil] at hW'
  refine (LawOf.calls (DiskTorn_law W _ a0 b0 w0 _ a1 b1 w1 a2 w2)).mono fun e W' ⟨he, hb⟩ => ?_
  subst he
  exact ⟨_, rfl, law_post laidOut rfl (tb := 4) (by kernel_rfl) T.un4 (by intro t ht; rw [Try.params4] at ht; simp only [List.mem_cons, List.not_mem_nil, or_false] at ht; rcases ht with rfl | rfl | rfl <;> exact ⟨by kernel_rfl, by decide +kernel⟩) rfl hW' hb⟩
theorem holds : Rows.DiskTornSaid :=
  OpenClaim.holds_of_wide 4 Try.f4 rfl rfl rfl rfl rfl rfl rfl ⟨rfl, rfl, rfl, rfl, rfl⟩ rfl rfl rfl rfl rfl (by kernel_rfl) Try.func4 (by kernel_rfl)
    (of_decide_eq_true (by kernel_rfl)) (by unfold Func.isWrapper; rw [if_neg (of_decide_eq_false (by kernel_rfl))]; exact ⟨rfl, rfl⟩)
    (fun os started H enc _ => lifted os started H enc)
end diskTorn
end Go.Proofs.Ytejbbpofamfhiaa
