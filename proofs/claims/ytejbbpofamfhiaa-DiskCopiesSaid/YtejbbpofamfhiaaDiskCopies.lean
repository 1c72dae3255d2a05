/- The law DiskCopies: what is written is what was handed in then; what is read may be changed without harm: it answers true for every slice of bytes and every number (no condition). -/
import Derived.Test.YtejbbpofamfhiaaDiskU
import Derived.Test.YtejbbpofamfhiaaLaw
import Derived.Test.YtejbbpofamfhiaaRows
namespace Go.Proofs.Ytejbbpofamfhiaa
open Go Go.SL
set_option linter.unusedVariables false
set_option linter.unusedSimpArgs false

theorem copies (b : List UInt8) (hb : b.length ≤ 64) (m : Nat) (hm : m < 8) :
    ∃ st1 st2, (DS.new (1 + m)).write 0 b = (0, st1) ∧ st1.Ok ∧ st1.wait.length = 1 ∧ st1.data.length = 1 + m ∧ st1.read 0 = pad 64 b ∧ st1.flushE = (0, st2) ∧ st2.Ok ∧ st2.wait.length = 0 ∧ st2.data.length = 1 + m ∧ st2.read 0 = pad 64 b := by
  have h0 := DS.new_ok (n := 1 + m) (by omega)
  have w1 : (DS.new (1 + m)).write 0 b = (0, { DS.new (1 + m) with wait := [(0, pad 64 b)], count := 1 }) := write_fine (by omega) (by simp [DS.new]; omega) hb rfl
  have k1 := DS.write_ok h0 0 b
  rw [w1] at k1
  have w2 : ({ DS.new (1 + m) with wait := [(0, pad 64 b)], count := 1 } : DS).flushE = (0, { DS.new (1 + m) with data := (List.replicate (1 + m) (List.replicate 64 0)).set 0 (pad 64 b), count := 1 }) := rfl
  have k2 := DS.flushE_ok k1
  rw [w2] at k2
  refine ⟨_, _, w1, k1, rfl, by simp [DS.new], rfl, w2, k2, rfl, by simp, ?_⟩
  have : 0 < 1 + m := by omega
  simp [DS.read, DS.new, List.getElem?_set, this]

theorem DiskCopies_law (W : World) (vb : Value) (b0 : List UInt8) (hb0 : ByR (bag (blks W)) vb b0) (hbl : b0.length ≤ maxLen)
    (n0 : Int) (hn : -9223372036854775808 ≤ n0 ∧ n0 < 9223372036854775808) : LawOf Try.prog 5 [vb, .int .i64 n0] W := by
  have hb1 := hb0
  obtain ⟨pb, capb, rfl, hcapb, hsrcb⟩ := hb1
  unfold maxLen at hbl
  have hb := hb0.take _ (Nat.min_le_left b0.length 64)
  have hb64 : (b0.take (min b0.length 64)).length ≤ 64 := by simp; omega
  have hbl2 : (b0.take (min b0.length 64)).length = min b0.length 64 := by simp
  generalize b0.take (min b0.length 64) = bs at hb hb64 hbl2
  rw [← hbl2] at hb
  have hn0 : 0 ≤ n0 % 8 := by omega
  obtain ⟨m, hmm⟩ := Int.eq_ofNat_of_zero_le hn0
  have hm8 : m < 8 := by omega
  have hm1 : 1 ≤ 1 + m := by omega
  have hm2 : 1 + m ≤ 4096 := by omega
  obtain ⟨st1, st2, w1, k1, l1, d1, r1, w2, k2, l2, d2, r2⟩ := copies bs hb64 m hm8
  have l1' : st1.wait.length ≤ 1000000 := by omega
  have l2' : st2.wait.length ≤ 1000000 := by omega
  have d1' : 0 < st1.data.length := by omega
  have d2' : 0 < st2.data.length := by omega
  have rd1 := fun p => Read_ok p _ k1 l1' 0 d1'
  have rd2 := fun p => Read_ok p _ k2 l2' 0 d2'
  have ln := fun p => Len_spec p st2
  simp only [r1, r2, d2] at rd1 rd2 ln
  have hpl := length_pad hb64
  have hx0 : (bv (pad 64 bs))[0]? = some (.int .u8 ((pad 64 bs).getD 0 0).toNat) := by
    have : 0 < (pad 64 bs).length := by omega
    simp [bv, List.getElem?_eq_getElem this]
  have hx1 : (bv (pad 64 bs))[1]? = some (.int .u8 ((pad 64 bs).getD 1 0).toNat) := by
    have : 1 < (pad 64 bs).length := by omega
    simp [bv, List.getElem?_eq_getElem this]
  have q1 : (DS.new (1 + m)).wait.length ≤ 1000000 := Nat.zero_le _
  have q2 : 0 ≤ (DS.new (1 + m)).count ∧ (DS.new (1 + m)).count ≤ 1000000000 := ⟨Int.le_refl 0, by show (0 : Int) ≤ 1000000000; decide⟩
  have q3 : 0 ≤ (DS.new (1 + m)).left ∧ (DS.new (1 + m)).left < 9223372036854775808 := ⟨Int.le_refl 0, by show (0 : Int) < 9223372036854775808; decide⟩
  refine FSpec.intro Try.func5 rfl 102 Try.ntmps5 (Nat.le_of_ble_eq_true rfl) fun w0 F => ?_
  show CW _ _ _ _ _ _ (_ :: F)
  repeat (first | refine CW.seq ?_ | refine PW.then_ ?_ | refine CW.block ?_ | refine CW.skip ?_ | refine CW.ret ?_ | refine PW.then_ret ?_ | refine PW.block_ret ?_ | refine Cut.ret ?_ | refine Rnd.ret ?_ | refine PW.block_normal ?_ | refine CW.exit ?_ | refine PW.then_exit ?_ | refine PW.block_hit ?_ | refine PW.block_miss rfl ?_ | refine Cut.exit ?_ | refine Rnd.exit ?_)
  refine CW.region ?_
  refine L1 (ps_assign rfl).os ?_
  refine LW.nil ?_
  repeat (first | refine CW.seq ?_ | refine PW.then_ ?_ | refine CW.block ?_ | refine CW.skip ?_ | refine CW.ret ?_ | refine PW.then_ret ?_ | refine PW.block_ret ?_ | refine Cut.ret ?_ | refine Rnd.ret ?_ | refine PW.block_normal ?_ | refine CW.exit ?_ | refine PW.then_exit ?_ | refine PW.block_hit ?_ | refine PW.block_miss rfl ?_ | refine Cut.exit ?_ | refine Rnd.exit ?_)
  refine CW.region ?_
  refine LE (os_call (pre := []) fit_spec Try.func16 (by decide +kernel) rfl rfl (List.Perm.refl _)) ?_
  rintro _ _ ⟨_, ⟨rfl, rfl⟩, rfl⟩
  refine L1 (ps_not rfl).os ?_
  refine LW.nil ?_
  repeat (first | refine CW.seq ?_ | refine PW.then_ ?_ | refine CW.block ?_ | refine CW.skip ?_ | refine CW.ret ?_ | refine PW.then_ret ?_ | refine PW.block_ret ?_ | refine Cut.ret ?_ | refine Rnd.ret ?_ | refine PW.block_normal ?_ | refine CW.exit ?_ | refine PW.then_exit ?_ | refine PW.block_hit ?_ | refine PW.block_miss rfl ?_ | refine Cut.exit ?_ | refine Rnd.exit ?_)
  refine CW.cond_false rfl ?_
  repeat (first | refine CW.seq ?_ | refine PW.then_ ?_ | refine CW.block ?_ | refine CW.skip ?_ | refine CW.ret ?_ | refine PW.then_ret ?_ | refine PW.block_ret ?_ | refine Cut.ret ?_ | refine Rnd.ret ?_ | refine PW.block_normal ?_ | refine CW.exit ?_ | refine PW.then_exit ?_ | refine PW.block_hit ?_ | refine PW.block_miss rfl ?_ | refine Cut.exit ?_ | refine Rnd.exit ?_)
  refine CW.region ?_
  refine L1 (ps_move rfl).os ?_
  refine L1 (ps_move rfl).os ?_
  refine L1 (ps_len_sl T.un27 rfl).os ?_
  refine L1 (ps_to (u := .int .i64 (bs.length : Nat)) (by congr 1; omega) (ps_min rfl rfl)).os ?_
  refine L1 (ps_sl_h T.un27 T.sz5 rfl rfl (by omega) (by omega)).os ?_
  refine L1 (ps_assign rfl).os ?_
  refine LW.nil ?_
  repeat (first | refine CW.seq ?_ | refine PW.then_ ?_ | refine CW.block ?_ | refine CW.skip ?_ | refine CW.ret ?_ | refine PW.then_ret ?_ | refine PW.block_ret ?_ | refine Cut.ret ?_ | refine Rnd.ret ?_ | refine PW.block_normal ?_ | refine CW.exit ?_ | refine PW.then_exit ?_ | refine PW.block_hit ?_ | refine PW.block_miss rfl ?_ | refine Cut.exit ?_ | refine Rnd.exit ?_)
  refine CW.region ?_
  refine L1 (ps_move rfl).os ?_
  refine L1 (ps_to (u := .int .i64 m) (by rw [← hmm]; rfl) (ps_mask_i64 (m := 3) rfl rfl rfl (by decide))).os ?_
  refine L1 (ps_to (u := .int .i64 (1 + m : Nat)) (by rfl) (ps_add_i64 rfl rfl (by omega) (by omega))).os ?_
  refine LE (os_call (New_yes (1 + m) hm1 hm2) Try.func17 (by decide +kernel) rfl rfl (List.Perm.refl _)) ?_
  rintro _ _ ⟨_, ⟨p, rfl, rfl⟩, rfl⟩
  refine L1 (ps_assign rfl).os ?_
  refine LW.nil ?_
  repeat (first | refine CW.seq ?_ | refine PW.then_ ?_ | refine CW.block ?_ | refine CW.skip ?_ | refine CW.ret ?_ | refine PW.then_ret ?_ | refine PW.block_ret ?_ | refine Cut.ret ?_ | refine Rnd.ret ?_ | refine PW.block_normal ?_ | refine CW.exit ?_ | refine PW.then_exit ?_ | refine PW.block_hit ?_ | refine PW.block_miss rfl ?_ | refine Cut.exit ?_ | refine Rnd.exit ?_)
  refine CW.region ?_
  refine L1 (ps_move rfl).os ?_
  refine LE (os_append0 (news := bv bs) T.un27 T.ti5 rfl (by decide) rfl rfl (by rw [length_bv, Nat.mul_one]; rfl) (hb.src (by repeat (first | exact pk_head _ _ | apply pk_tail))) (bv_one _) (by show bs.length ≤ maxLen; unfold maxLen; omega) (by show bs.length * 1 ≤ _; omega)) ?_
  rintro _ _ ⟨q, d, rfl, rfl, hq⟩
  refine L1 (ps_assign rfl).os ?_
  refine LW.nil ?_
  refine slOwn_info (by repeat (first | exact pk_head _ _ | apply pk_tail)) fun hqd hdm hqg => ?_
  repeat (first | refine CW.seq ?_ | refine PW.then_ ?_ | refine CW.block ?_ | refine CW.skip ?_ | refine CW.ret ?_ | refine PW.then_ret ?_ | refine PW.block_ret ?_ | refine Cut.ret ?_ | refine Rnd.ret ?_ | refine PW.block_normal ?_ | refine CW.exit ?_ | refine PW.then_exit ?_ | refine PW.block_hit ?_ | refine PW.block_miss rfl ?_ | refine Cut.exit ?_ | refine Rnd.exit ?_)
  refine CW.region ?_
  refine L1 (ps_move rfl).os ?_
  refine L1 (ps_move rfl).os ?_
  refine LE (os_call (Write_to w1 (ByR.own rfl hqd hqg) q1 q2 q3) Try.func18 (by decide +kernel) rfl rfl (List.Perm.swap _ _ _)) ?_
  rintro _ _ ⟨_, ⟨rfl, rfl⟩, rfl⟩
  refine LW.nil ?_
  repeat (first | refine CW.seq ?_ | refine PW.then_ ?_ | refine CW.block ?_ | refine CW.skip ?_ | refine CW.ret ?_ | refine PW.then_ret ?_ | refine PW.block_ret ?_ | refine Cut.ret ?_ | refine Rnd.ret ?_ | refine PW.block_normal ?_ | refine CW.exit ?_ | refine PW.then_exit ?_ | refine PW.block_hit ?_ | refine PW.block_miss rfl ?_ | refine Cut.exit ?_ | refine Rnd.exit ?_)
  refine CW.region ?_
  refine L1 (ps_move rfl).os ?_
  refine L1 (ps_len_sl T.un27 rfl).os ?_
  refine L1 (ps_move rfl).os ?_
  refine LW.nil ?_
  repeat (first | refine CW.seq ?_ | refine PW.then_ ?_ | refine CW.block ?_ | refine CW.skip ?_ | refine CW.ret ?_ | refine PW.then_ret ?_ | refine PW.block_ret ?_ | refine Cut.ret ?_ | refine Rnd.ret ?_ | refine PW.block_normal ?_ | refine CW.exit ?_ | refine PW.then_exit ?_ | refine PW.block_hit ?_ | refine PW.block_miss rfl ?_ | refine Cut.exit ?_ | refine Rnd.exit ?_)
  refine CW.loopM (α := Nat × List UInt8) [7, 33, 34, 35, 36, 37, 38, 39, 40, 41, 42] (fun k a => a.1 ≤ bs.length ∧ k = bs.length - a.1 ∧ a.2.length = bs.length) (fun a => [(33, .int .i64 a.1)])
    (fun a => DiskAt p st1 :: slOwn 5 1 (.slice q bs.length d) bs.length (bv a.2) :: bag (blks W) :: F) bs.length (0, bs) ⟨by simp, by simp, rfl⟩ ⟨rfl, trivial⟩ (by repeat (first | exact Ent.refl _ | (apply Ent.cons; · repeat (first | exact pk_head _ _ | apply pk_tail)) | apply Ent.skip)) ?_
  rintro k ⟨i, xs⟩ g ⟨hi, hk', hxl⟩
  dsimp only at hi hk' hxl
  repeat (first | refine CW.seq ?_ | refine PW.then_ ?_ | refine CW.block ?_ | refine CW.skip ?_ | refine CW.ret ?_ | refine PW.then_ret ?_ | refine PW.block_ret ?_ | refine Cut.ret ?_ | refine Rnd.ret ?_ | refine PW.block_normal ?_ | refine CW.exit ?_ | refine PW.then_exit ?_ | refine PW.block_hit ?_ | refine PW.block_miss rfl ?_ | refine Cut.exit ?_ | refine Rnd.exit ?_)
  by_cases hlt : i < bs.length
  · refine CW.region ?_
    refine L1 (ps_t (ps_lss rfl rfl) (by omega)).os ?_
    refine LW.nil ?_
    repeat (first | refine CW.seq ?_ | refine PW.then_ ?_ | refine CW.block ?_ | refine CW.skip ?_ | refine CW.ret ?_ | refine PW.then_ret ?_ | refine PW.block_ret ?_ | refine Cut.ret ?_ | refine Rnd.ret ?_ | refine PW.block_normal ?_ | refine CW.exit ?_ | refine PW.then_exit ?_ | refine PW.block_hit ?_ | refine PW.block_miss rfl ?_ | refine Cut.exit ?_ | refine Rnd.exit ?_)
    refine CW.cond_true rfl ?_
    repeat (first | refine CW.seq ?_ | refine PW.then_ ?_ | refine CW.block ?_ | refine CW.skip ?_ | refine CW.ret ?_ | refine PW.then_ret ?_ | refine PW.block_ret ?_ | refine Cut.ret ?_ | refine Rnd.ret ?_ | refine PW.block_normal ?_ | refine CW.exit ?_ | refine PW.then_exit ?_ | refine PW.block_hit ?_ | refine PW.block_miss rfl ?_ | refine Cut.exit ?_ | refine Rnd.exit ?_)
    refine CW.region ?_
    refine L1 (ps_move rfl).os ?_
    refine L1 (ps_assign rfl).os ?_
    refine LW.nil ?_
    repeat (first | refine CW.seq ?_ | refine PW.then_ ?_ | refine CW.block ?_ | refine CW.skip ?_ | refine CW.ret ?_ | refine PW.then_ret ?_ | refine PW.block_ret ?_ | refine Cut.ret ?_ | refine Rnd.ret ?_ | refine PW.block_normal ?_ | refine CW.exit ?_ | refine PW.then_exit ?_ | refine PW.block_hit ?_ | refine PW.block_miss rfl ?_ | refine Cut.exit ?_ | refine Rnd.exit ?_)
    refine slOwn_open (by repeat (first | exact pk_head _ _ | apply pk_tail)) (fun _ h0 _ => absurd hlt (by omega)) ?_
    rintro gg cap cur hv hmc hcm hcl2 htk hxl2
    cases hv
    have hcv : cur[0 + (i : Int).toNat * 1]? = some (.int .u8 (xs[i]'(by omega)).toNat) := by
      have h1 : (bv xs)[i]? = some (.int .u8 (xs[i]'(by omega)).toNat) := by simp [bv, List.getElem?_eq_getElem (show i < xs.length by omega)]
      rw [← htk, List.getElem?_take, if_pos (by omega)] at h1
      simpa using h1
    obtain ⟨c, hc⟩ := wrap_u8_byte (((xs[i]'(by omega)).toNat : Nat) + 1)
    have hset : (cur.set (0 + (i : Int).toNat * 1) (.int .u8 c.toNat)).take (bs.length * 1) = bv (xs.set i c) := by
      rw [List.take_set, htk, Nat.zero_add, Int.toNat_natCast, Nat.mul_one]
      simp [bv]
    have hsl : (cur.set (0 + (i : Int).toNat * 1) (.int .u8 c.toNat)).length = d * 1 := by simpa using hcl2
    refine CW.region ?_
    refine L1 (ps_move rfl).os ?_
    refine L1 (ps_move rfl).os ?_
    refine L1 (ps_ia_slice T.un27 T.sz5 rfl rfl (by omega) (by omega)).os ?_
    refine L1 (os_load1 (b := gg) (by repeat (first | exact pk_head _ _ | apply pk_tail)) T.ag5 rfl hcv) ?_
    refine L1 (ps_to (congrArg (Value.int .u8) hc) (ps_add rfl rfl)).os ?_
    refine L1 (ps_ia_slice T.un27 T.sz5 rfl rfl (by omega) (by omega)).os ?_
    refine L1 (os_store1 (b := gg) (by repeat (first | exact pk_head _ _ | apply pk_tail)) T.sz5 rfl rfl rfl (by rw [hcl2]; omega)) ?_
    refine LW.nil ?_
    repeat (first | refine CW.seq ?_ | refine PW.then_ ?_ | refine CW.block ?_ | refine CW.skip ?_ | refine CW.ret ?_ | refine PW.then_ret ?_ | refine PW.block_ret ?_ | refine Cut.ret ?_ | refine Rnd.ret ?_ | refine PW.block_normal ?_ | refine CW.exit ?_ | refine PW.then_exit ?_ | refine PW.block_hit ?_ | refine PW.block_miss rfl ?_ | refine Cut.exit ?_ | refine Rnd.exit ?_)
    refine CW.region ?_
    refine L1 (ps_add_i64 rfl rfl (by omega) (by omega)).os ?_
    refine L1 (ps_move rfl).os ?_
    refine LW.nil ?_
    refine Meet.round (bs.length - (i + 1)) (i + 1, xs.set i c) (by omega) ⟨hlt, rfl, by simpa using hxl⟩ (by repeat (first | (with_reducible exact Ag.refl _ _) | (with_reducible apply Ag.pu0) | ((with_reducible refine Ag.pu _ ?_ ?_); · exact rfl) | ((with_reducible refine Ag.mix ?_ ?_); · exact rfl) | ((with_reducible refine Ag.pus ?_ ?_); · exact rfl))) ⟨rfl, trivial⟩ ?_
    exact (Ent.perm (Bs := cb gg _ _ :: _) (by repeat (first | exact pk_head _ _ | apply pk_tail))).trans ((Ent.slMk hmc hcm hsl hset _).trans (by repeat (first | exact Ent.refl _ | (apply Ent.cons; · repeat (first | exact pk_head _ _ | apply pk_tail)) | apply Ent.skip)))
  · refine CW.region ?_
    refine L1 (ps_f (ps_lss rfl rfl) (by omega)).os ?_
    refine LW.nil ?_
    repeat (first | refine CW.seq ?_ | refine PW.then_ ?_ | refine CW.block ?_ | refine CW.skip ?_ | refine CW.ret ?_ | refine PW.then_ret ?_ | refine PW.block_ret ?_ | refine Cut.ret ?_ | refine Rnd.ret ?_ | refine PW.block_normal ?_ | refine CW.exit ?_ | refine PW.then_exit ?_ | refine PW.block_hit ?_ | refine PW.block_miss rfl ?_ | refine Cut.exit ?_ | refine Rnd.exit ?_)
    refine CW.cond_false rfl ?_
    repeat (first | refine CW.seq ?_ | refine PW.then_ ?_ | refine CW.block ?_ | refine CW.skip ?_ | refine CW.ret ?_ | refine PW.then_ret ?_ | refine PW.block_ret ?_ | refine Cut.ret ?_ | refine Rnd.ret ?_ | refine PW.block_normal ?_ | refine CW.exit ?_ | refine PW.then_exit ?_ | refine PW.block_hit ?_ | refine PW.block_miss rfl ?_ | refine Cut.exit ?_ | refine Rnd.exit ?_)
    refine CW.region ?_
    refine L1 (ps_move rfl).os ?_
    refine LE (os_call (rd1 p) Try.func20 (by decide +kernel) rfl rfl (List.Perm.refl _)) ?_
    rintro _ _ ⟨_, ⟨b, rfl, rfl⟩, rfl⟩
    refine L1 (ps_move rfl).os ?_
    refine L1 (ps_extract rfl rfl).os ?_
    refine L1 (ps_extract rfl rfl).os ?_
    refine L1 (ps_assign rfl).os ?_
    refine L1 (ps_assign rfl).os ?_
    refine LW.nil ?_
    refine PW.then_ ?_
    have hsm : bs.length ≤ 64 := hb64
    have hz64 : ((bv (List.replicate (64 - bs.length) 0)).drop 0).take (bv (List.replicate (64 - bs.length) 0)).length = bv (List.replicate (64 - bs.length) 0) := by rw [List.drop_zero, List.take_length]
    have hmx : bs.length + (List.replicate (64 - bs.length) (0 : UInt8)).length ≤ maxLen := by rw [List.length_replicate]; unfold maxLen; omega
    have hp64 : ((bv (pad 64 bs)).drop 0).take (bv (pad 64 bs)).length = bv (pad 64 bs) := by rw [List.drop_zero, List.take_length]
    refine CW.cutM (α := Unit) [10, 48, 49, 50, 51, 52, 53, 54, 55] (fun _ => True) (fun q => [(10, strV (pad 64 bs))])
      (fun q => DiskAt p st1 :: cb b 77 (bv (pad 64 bs)) :: bag (blks W) :: F) ?_ ?_
    · refine CW.draw T.mixed ?_
      refine A_take (i := 0) (some 48) rfl rfl (by kernel_rfl) (by kernel_rfl) (by kernel_rfl) rfl (ps_move rfl) ?_
      refine A_take (i := 2) (some 50) rfl rfl (by kernel_rfl) (by kernel_rfl) (by kernel_rfl) rfl (ps_move rfl) ?_
      refine A_take (i := 3) (some 51) rfl rfl (by kernel_rfl) (by kernel_rfl) (by kernel_rfl) rfl (ps_len_sl T.un27 rfl) ?_
      refine A_take (i := 4) (some 52) rfl rfl (by kernel_rfl) (by kernel_rfl) (by kernel_rfl) rfl (ps_to (u := .int .i64 (64 - bs.length : Nat)) (by congr 1; omega) (ps_sub_i64 rfl rfl (by omega) (by omega))) ?_
      refine A_branch (rs := [1, 5]) (by kernel_rfl) (by simp) ?_
      refine AR.cons1 (i := 1) (some 49) rfl rfl rfl (os_str bs T.un27 T.un5 T.un9 rfl rfl (hb.src (by repeat (first | exact pk_head _ _ | apply pk_tail)))) ?_ ?_
      · skip
        refine A_branch (rs := [5]) (by kernel_rfl) (by simp) ?_
        refine AR.consE (i := 5) (some 53) rfl rfl rfl (os_zeros (64 - bs.length) T.un27 T.ti5 rfl rfl (by omega)) ?_ ?_
        · rintro _ _ ⟨b53, rfl, rfl⟩
          refine A_branch (rs := [6]) (by kernel_rfl) (by simp) ?_
          refine AR.cons1 (i := 6) (some 54) rfl rfl rfl (os_str (List.replicate (64 - bs.length) 0) T.un27 T.un5 T.un9 rfl (by simp) (Src.cb (b := b53) (by repeat (first | exact pk_head _ _ | apply pk_tail)) hz64)) ?_ ?_
          · skip
            refine A_take (i := 7) (some 55) rfl rfl (by kernel_rfl) (by kernel_rfl) (by kernel_rfl) rfl (ps_strV_add _ _ rfl rfl hmx) ?_
            refine A_take (i := 8) (some 10) rfl rfl (by kernel_rfl) (by kernel_rfl) (by kernel_rfl) rfl (ps_assign rfl) ?_
            refine A_done (by kernel_rfl) ?_
            exact Meet.cut () trivial (by repeat (first | (with_reducible exact Ag.refl _ _) | (with_reducible apply Ag.pu0) | ((with_reducible refine Ag.pu _ ?_ ?_); · exact rfl) | ((with_reducible refine Ag.mix ?_ ?_); · exact rfl) | ((with_reducible refine Ag.pus ?_ ?_); · exact rfl))) ⟨rfl, trivial⟩ (by repeat (first | exact Ent.refl _ | (apply Ent.cons; · repeat (first | exact pk_head _ _ | apply pk_tail)) | apply Ent.skip))
          exact AR.nil
        exact AR.nil
      refine AR.consE (i := 5) (some 53) rfl rfl rfl (os_zeros (64 - bs.length) T.un27 T.ti5 rfl rfl (by omega)) ?_ ?_
      · rintro _ _ ⟨b53, rfl, rfl⟩
        refine A_branch (rs := [1, 6]) (by kernel_rfl) (by simp) ?_
        refine AR.cons1 (i := 1) (some 49) rfl rfl rfl (os_str bs T.un27 T.un5 T.un9 rfl rfl (hb.src (by repeat (first | exact pk_head _ _ | apply pk_tail)))) ?_ ?_
        · skip
          refine A_branch (rs := [6]) (by kernel_rfl) (by simp) ?_
          refine AR.cons1 (i := 6) (some 54) rfl rfl rfl (os_str (List.replicate (64 - bs.length) 0) T.un27 T.un5 T.un9 rfl (by simp) (Src.cb (b := b53) (by repeat (first | exact pk_head _ _ | apply pk_tail)) hz64)) ?_ ?_
          · skip
            refine A_take (i := 7) (some 55) rfl rfl (by kernel_rfl) (by kernel_rfl) (by kernel_rfl) rfl (ps_strV_add _ _ rfl rfl hmx) ?_
            refine A_take (i := 8) (some 10) rfl rfl (by kernel_rfl) (by kernel_rfl) (by kernel_rfl) rfl (ps_assign rfl) ?_
            refine A_done (by kernel_rfl) ?_
            exact Meet.cut () trivial (by repeat (first | (with_reducible exact Ag.refl _ _) | (with_reducible apply Ag.pu0) | ((with_reducible refine Ag.pu _ ?_ ?_); · exact rfl) | ((with_reducible refine Ag.mix ?_ ?_); · exact rfl) | ((with_reducible refine Ag.pus ?_ ?_); · exact rfl))) ⟨rfl, trivial⟩ (by repeat (first | exact Ent.refl _ | (apply Ent.cons; · repeat (first | exact pk_head _ _ | apply pk_tail)) | apply Ent.skip))
          exact AR.nil
        refine AR.cons1 (i := 6) (some 54) rfl rfl rfl (os_str (List.replicate (64 - bs.length) 0) T.un27 T.un5 T.un9 rfl (by simp) (Src.cb (b := b53) (by repeat (first | exact pk_head _ _ | apply pk_tail)) hz64)) ?_ ?_
        · skip
          refine A_branch (rs := [1]) (by kernel_rfl) (by simp) ?_
          refine AR.cons1 (i := 1) (some 49) rfl rfl rfl (os_str bs T.un27 T.un5 T.un9 rfl rfl (hb.src (by repeat (first | exact pk_head _ _ | apply pk_tail)))) ?_ ?_
          · skip
            refine A_take (i := 7) (some 55) rfl rfl (by kernel_rfl) (by kernel_rfl) (by kernel_rfl) rfl (ps_strV_add _ _ rfl rfl hmx) ?_
            refine A_take (i := 8) (some 10) rfl rfl (by kernel_rfl) (by kernel_rfl) (by kernel_rfl) rfl (ps_assign rfl) ?_
            refine A_done (by kernel_rfl) ?_
            exact Meet.cut () trivial (by repeat (first | (with_reducible exact Ag.refl _ _) | (with_reducible apply Ag.pu0) | ((with_reducible refine Ag.pu _ ?_ ?_); · exact rfl) | ((with_reducible refine Ag.mix ?_ ?_); · exact rfl) | ((with_reducible refine Ag.pus ?_ ?_); · exact rfl))) ⟨rfl, trivial⟩ (by repeat (first | exact Ent.refl _ | (apply Ent.cons; · repeat (first | exact pk_head _ _ | apply pk_tail)) | apply Ent.skip))
          exact AR.nil
        exact AR.nil
      exact AR.nil
    intro _ g _
    dsimp only
    repeat (first | refine CW.seq ?_ | refine PW.then_ ?_ | refine CW.block ?_ | refine CW.skip ?_ | refine CW.ret ?_ | refine PW.then_ret ?_ | refine PW.block_ret ?_ | refine Cut.ret ?_ | refine Rnd.ret ?_ | refine PW.block_normal ?_ | refine CW.exit ?_ | refine PW.then_exit ?_ | refine PW.block_hit ?_ | refine PW.block_miss rfl ?_ | refine Cut.exit ?_ | refine Rnd.exit ?_)
    refine CW.region ?_
    refine L1 (ps_move rfl).os ?_
    refine L1 (os_str (pad 64 bs) T.un27 T.un5 T.un9 rfl hpl (Src.cb (b := b) (by repeat (first | exact pk_head _ _ | apply pk_tail)) hp64)) ?_
    refine L1 (ps_move rfl).os ?_
    refine L1 (ps_f (ps_strV_neq _ _ rfl rfl) (fun h => h rfl)).os ?_
    refine LW.nil ?_
    repeat (first | refine CW.seq ?_ | refine PW.then_ ?_ | refine CW.block ?_ | refine CW.skip ?_ | refine CW.ret ?_ | refine PW.then_ret ?_ | refine PW.block_ret ?_ | refine Cut.ret ?_ | refine Rnd.ret ?_ | refine PW.block_normal ?_ | refine CW.exit ?_ | refine PW.then_exit ?_ | refine PW.block_hit ?_ | refine PW.block_miss rfl ?_ | refine Cut.exit ?_ | refine Rnd.exit ?_)
    refine CW.cond_false rfl ?_
    repeat (first | refine CW.seq ?_ | refine PW.then_ ?_ | refine CW.block ?_ | refine CW.skip ?_ | refine CW.ret ?_ | refine PW.then_ret ?_ | refine PW.block_ret ?_ | refine Cut.ret ?_ | refine Rnd.ret ?_ | refine PW.block_normal ?_ | refine CW.exit ?_ | refine PW.then_exit ?_ | refine PW.block_hit ?_ | refine PW.block_miss rfl ?_ | refine Cut.exit ?_ | refine Rnd.exit ?_)
    have hlt0 : 0 < (bv (pad 64 bs)).length := by simp [hpl]
    have hlt1 : 1 < (bv (pad 64 bs)).length := by simp [hpl]
    refine CW.region ?_
    refine L1 (ps_move rfl).os ?_
    refine L1 (ps_ia_slice T.un27 T.sz5 rfl rfl (by omega) (by omega)).os ?_
    refine L1 (os_load1 (b := b) (by repeat (first | exact pk_head _ _ | apply pk_tail)) T.ag5 rfl hx0) ?_
    refine L1 (ps_add rfl rfl).os ?_
    refine L1 (ps_ia_slice T.un27 T.sz5 rfl rfl (by omega) (by omega)).os ?_
    refine L1 (os_store1 (b := b) (by repeat (first | exact pk_head _ _ | apply pk_tail)) T.sz5 rfl rfl rfl hlt0) ?_
    refine LW.nil ?_
    repeat (first | refine CW.seq ?_ | refine PW.then_ ?_ | refine CW.block ?_ | refine CW.skip ?_ | refine CW.ret ?_ | refine PW.then_ret ?_ | refine PW.block_ret ?_ | refine Cut.ret ?_ | refine Rnd.ret ?_ | refine PW.block_normal ?_ | refine CW.exit ?_ | refine PW.then_exit ?_ | refine PW.block_hit ?_ | refine PW.block_miss rfl ?_ | refine Cut.exit ?_ | refine Rnd.exit ?_)
    refine CW.region ?_
    refine L1 (ps_move rfl).os ?_
    refine LE (os_call (Flush_to w2 k1 l1') Try.func23 (by decide +kernel) rfl rfl (by repeat (first | exact pk_head _ _ | apply pk_tail))) ?_
    rintro _ _ ⟨_, ⟨rfl, rfl⟩, rfl⟩
    refine LW.nil ?_
    repeat (first | refine CW.seq ?_ | refine PW.then_ ?_ | refine CW.block ?_ | refine CW.skip ?_ | refine CW.ret ?_ | refine PW.then_ret ?_ | refine PW.block_ret ?_ | refine Cut.ret ?_ | refine Rnd.ret ?_ | refine PW.block_normal ?_ | refine CW.exit ?_ | refine PW.then_exit ?_ | refine PW.block_hit ?_ | refine PW.block_miss rfl ?_ | refine Cut.exit ?_ | refine Rnd.exit ?_)
    refine CW.region ?_
    refine L1 (ps_move rfl).os ?_
    refine LE (os_call (rd2 p) Try.func20 (by decide +kernel) rfl rfl (by repeat (first | exact pk_head _ _ | apply pk_tail))) ?_
    rintro _ _ ⟨_, ⟨bb, rfl, rfl⟩, rfl⟩
    refine L1 (ps_move rfl).os ?_
    refine L1 (ps_extract rfl rfl).os ?_
    refine L1 (ps_extract rfl rfl).os ?_
    refine L1 (ps_assign rfl).os ?_
    refine L1 (ps_assign rfl).os ?_
    refine LW.nil ?_
    repeat (first | refine CW.seq ?_ | refine PW.then_ ?_ | refine CW.block ?_ | refine CW.skip ?_ | refine CW.ret ?_ | refine PW.then_ret ?_ | refine PW.block_ret ?_ | refine Cut.ret ?_ | refine Rnd.ret ?_ | refine PW.block_normal ?_ | refine CW.exit ?_ | refine PW.then_exit ?_ | refine PW.block_hit ?_ | refine PW.block_miss rfl ?_ | refine Cut.exit ?_ | refine Rnd.exit ?_)
    refine CW.region ?_
    refine L1 (ps_move rfl).os ?_
    refine L1 (ps_ia_slice T.un27 T.sz5 rfl rfl (by omega) (by omega)).os ?_
    refine L1 (os_load1 (b := bb) (by repeat (first | exact pk_head _ _ | apply pk_tail)) T.ag5 rfl hx1) ?_
    refine L1 (ps_add rfl rfl).os ?_
    refine L1 (ps_ia_slice T.un27 T.sz5 rfl rfl (by omega) (by omega)).os ?_
    refine L1 (os_store1 (b := bb) (by repeat (first | exact pk_head _ _ | apply pk_tail)) T.sz5 rfl rfl rfl hlt1) ?_
    refine LW.nil ?_
    repeat (first | refine CW.seq ?_ | refine PW.then_ ?_ | refine CW.block ?_ | refine CW.skip ?_ | refine CW.ret ?_ | refine PW.then_ret ?_ | refine PW.block_ret ?_ | refine Cut.ret ?_ | refine Rnd.ret ?_ | refine PW.block_normal ?_ | refine CW.exit ?_ | refine PW.then_exit ?_ | refine PW.block_hit ?_ | refine PW.block_miss rfl ?_ | refine Cut.exit ?_ | refine Rnd.exit ?_)
    refine CW.region ?_
    refine L1 (ps_move rfl).os ?_
    refine LE (os_call (rd2 p) Try.func20 (by decide +kernel) rfl rfl (by repeat (first | exact pk_head _ _ | apply pk_tail))) ?_
    rintro _ _ ⟨_, ⟨bc, rfl, rfl⟩, rfl⟩
    refine L1 (ps_move rfl).os ?_
    refine L1 (ps_extract rfl rfl).os ?_
    refine L1 (ps_extract rfl rfl).os ?_
    refine L1 (ps_assign rfl).os ?_
    refine L1 (ps_assign rfl).os ?_
    refine LW.nil ?_
    repeat (first | refine CW.seq ?_ | refine PW.then_ ?_ | refine CW.block ?_ | refine CW.skip ?_ | refine CW.ret ?_ | refine PW.then_ret ?_ | refine PW.block_ret ?_ | refine Cut.ret ?_ | refine Rnd.ret ?_ | refine PW.block_normal ?_ | refine CW.exit ?_ | refine PW.then_exit ?_ | refine PW.block_hit ?_ | refine PW.block_miss rfl ?_ | refine Cut.exit ?_ | refine Rnd.exit ?_)
    refine CW.region ?_
    refine L1 (ps_move rfl).os ?_
    refine L1 (os_str (pad 64 bs) T.un27 T.un5 T.un9 rfl hpl (Src.cb (b := bc) (by repeat (first | exact pk_head _ _ | apply pk_tail)) hp64)) ?_
    refine L1 (ps_move rfl).os ?_
    refine L1 (ps_t (ps_strV_eql _ _ rfl rfl) rfl).os ?_
    refine L1 (ps_move rfl).os ?_
    refine LGE ?_ (os_call (pre := []) (New_no 0 (.inl (by decide))) Try.func17 (by decide +kernel) rfl rfl (List.Perm.refl _)) ?_
    · exact rfl
    rintro _ _ ⟨_, ⟨rfl, rfl⟩, rfl⟩
    refine LG1 ?_ (ps_ptr_eql_nil T.un25 rfl rfl).os ?_
    · exact rfl
    refine L1 (ps_pick_t rfl rfl).os ?_
    refine L1 (ps_move rfl).os ?_
    refine LGE ?_ (os_call (pre := []) (New_no 4097 (.inr (by decide))) Try.func17 (by decide +kernel) rfl rfl (List.Perm.refl _)) ?_
    · exact rfl
    rintro _ _ ⟨_, ⟨rfl, rfl⟩, rfl⟩
    refine LG1 ?_ (ps_ptr_eql_nil T.un25 rfl rfl).os ?_
    · exact rfl
    refine L1 (ps_pick_t rfl rfl).os ?_
    refine L1 (ps_move rfl).os ?_
    refine LG1 ?_ (ps_move rfl).os ?_
    · exact rfl
    refine LGE ?_ (os_call (ln p) Try.func24 (by decide +kernel) rfl rfl (by repeat (first | exact pk_head _ _ | apply pk_tail))) ?_
    · exact rfl
    rintro _ _ ⟨_, ⟨rfl, rfl⟩, rfl⟩
    refine LG1 ?_ (ps_move rfl).os ?_
    · exact rfl
    refine LG1 ?_ (ps_to (u := .int .i64 m) (by rw [← hmm]; rfl) (ps_mask_i64 (m := 3) rfl rfl rfl (by decide))).os ?_
    · exact rfl
    refine LG1 ?_ (ps_to (u := .int .i64 (1 + m : Nat)) (by rfl) (ps_add_i64 rfl rfl (by omega) (by omega))).os ?_
    · exact rfl
    refine LG1 ?_ (ps_t (ps_eql rfl rfl) (rfl)).os ?_
    · exact rfl
    refine L1 (ps_pick_t rfl rfl).os ?_
    refine L1 (ps_assign rfl).os ?_
    refine LW.nil ?_
    repeat (first | refine CW.seq ?_ | refine PW.then_ ?_ | refine CW.block ?_ | refine CW.skip ?_ | refine CW.ret ?_ | refine PW.then_ret ?_ | refine PW.block_ret ?_ | refine Cut.ret ?_ | refine Rnd.ret ?_ | refine PW.block_normal ?_ | refine CW.exit ?_ | refine PW.then_exit ?_ | refine PW.block_hit ?_ | refine PW.block_miss rfl ?_ | refine Cut.exit ?_ | refine Rnd.exit ?_)
    exact Fin.ret1 (v := .bool true) rfl [bag (blks W)] rfl ⟨rfl, rfl⟩ (by repeat (first | exact Ent.refl _ | (apply Ent.cons; · repeat (first | exact pk_head _ _ | apply pk_tail)) | apply Ent.skip))

namespace diskCopies
open Go.ChangeShapes Go.WideShapes Go.ChangeAt Go.RowKit
theorem own : ownKnob Try.prog.godebug = none := by kernel_rfl
theorem laidOut : laidOutB Try.prog = true := by kernel_rfl
set_option maxRecDepth 100000 in
theorem lifted (os : Os) (started : os.Started) (H : Type) (enc : TypeId × Value → H) :
    ReturnsInHanded {} Try.checked os 5 .any (Rows.diskCopiesSpec.pre6 enc Try.prog Try.f5 Rows.diskCopiesRow.domain false) (Rows.diskCopiesSpec.post enc Try.prog Try.f5 false true false false) := by
  refine returnsInHanded_of_change (C := Try.checked) own started (by kernel_rfl) Try.func5
    (ChangeSpec.witness6 (enc := enc) (C := Try.checked) false ⟨#[], #[(Value.slice none 0 0), (Value.int .i64 0)], []⟩ 8 (by kernel_rfl) (by kernel_rfl) (by kernel_rfl) (by kernel_rfl)) ?_
  intro W base args ds gs before hval0 hW hcnd _
  have hval : ∀ (j : Nat) t v, Try.f5.params[j]? = some t → args[j]? = some v → Value.okWide Try.prog W .any base t v := hval0
  have hW' := hW
  obtain ⟨p, q, hA0, hV, rfl, hfz, hnd⟩ := hW
  have hA : DataW.TrodAll enc Try.prog W 0 (fun _ => true) true Try.f5.params.toList args.toList ds p := hA0
  rw [Try.params5] at hA hval
  obtain ⟨v0, vs0, d0, ds0, p0, q0, hargs, rfl, rfl, h0, r0⟩ := trodAll_cons hA
  obtain ⟨v1, vs1, d1, ds1, p1, q1, rfl, rfl, rfl, h1, r1⟩ := trodAll_cons r0
  obtain ⟨rfl, rfl, rfl⟩ := trodAll_nil r1
  obtain rfl : args = #[v0, v1] := by cases args; simp_all
  obtain ⟨rfl, rfl⟩ := trodVars_none hV
  obtain ⟨_, _, _, rfl⟩ := okWide_slice T.un27 (hval 0 27 v0 rfl rfl)
  obtain ⟨fu0, hf0⟩ := h0
  obtain ⟨a0, b0, w0⟩ := open_bytes T.un27 T.un5 T.co5 hf0
  obtain ⟨a1, rfl, rfl, rfl, wf1⟩ := open_int T.un3 (hval 1 3 v1 rfl rfl) h1
  have w1 := bounds_i64' wf1
  simp only [List.append_nil] at hW'
  refine (LawOf.calls (DiskCopies_law W _ a0 b0 w0 a1 w1)).mono fun e W' ⟨he, hb⟩ => ?_
  subst he
  exact ⟨_, rfl, law_post laidOut rfl (tb := 4) (by kernel_rfl) T.un4 (by intro t ht; rw [Try.params5] at ht; simp only [List.mem_cons, List.not_mem_nil, or_false] at ht; rcases ht with rfl | rfl <;> exact ⟨by kernel_rfl, by decide +kernel⟩) rfl hW' hb⟩
theorem holds : Rows.DiskCopiesSaid :=
  OpenClaim.holds_of_wide 5 Try.f5 rfl rfl rfl rfl rfl rfl rfl ⟨rfl, rfl, rfl, rfl, rfl⟩ rfl rfl rfl rfl rfl (by kernel_rfl) Try.func5 (by kernel_rfl)
    (of_decide_eq_true (by kernel_rfl)) (by unfold Func.isWrapper; rw [if_neg (of_decide_eq_false (by kernel_rfl))]; exact ⟨rfl, rfl⟩)
    (fun os started H enc _ => lifted os started H enc)
end diskCopies
end Go.Proofs.Ytejbbpofamfhiaa
