/- The document's own hash of bytes is the program's: the contract. -/
import Derived.Test.YtcfipblnaifbhaaDoorShaV1
import Derived.Test.YtcfipblnaifbhaaDoorShaV2
import Derived.Test.YtcfipblnaifbhaaDoorShaV3
namespace Go.Proofs.YtcfipblnaifbhaaDoor
set_option linter.unusedVariables false
set_option linter.unusedSimpArgs false
open Go Go.SL

set_option maxHeartbeats 4000000 in
set_option maxRecDepth 10000 in
theorem rSum_spec (B : Asn) (v : Value) (bs : List UInt8) (hb : ByR B v bs) (hl : bs.length ≤ 1000000) :
    FSpec Tryd.prog 10 [v] [B] (fun r As => r = .agg (bv (sumM bs)).toArray ∧ As = [B]) := by
  have hb0 := hb
  obtain ⟨q0, cap0, rfl, hcap0, -⟩ := hb0
  obtain ⟨K, hK⟩ : ∃ K, (119 - bs.length % 64) % 64 = K := ⟨_, rfl⟩
  have hK64 : K < 64 := by omega
  obtain ⟨n8, hn8⟩ : ∃ n8, bs.length * 8 = n8 := ⟨_, rfl⟩
  have hpad : padM bs = bs ++ [0x80] ++ List.replicate K 0 ++ be 8 ((n8 : Nat) : Int) := by rw [padM, hK, hn8]
  have hpl := padM_len bs
  have hsum : sumM bs = outM (hM (padM bs) ((padM bs).length / 64)) := rfl
  have hp9 : (padM bs).length = bs.length + 1 + K + 8 := by rw [hpad]; simp; omega
  have e8 : (bs.length : Int) * 8 = ((n8 : Nat) : Int) := by rw [← hn8]; push_cast; rfl
  refine FSpec.intro Tryd.func10 rfl 311 Tryd.ntmps10 (Nat.le_of_ble_eq_true rfl) fun w0 F => ?_
  show CW _ _ _ _ _ _ (_ :: F)
  repeat (first | refine CW.seq ?_ | refine PW.then_ ?_ | refine PW.then_to rfl ?_ | refine CW.block ?_ | refine CW.skip ?_ | refine CW.ret ?_ | refine PW.then_ret ?_ | refine PW.block_ret ?_ | refine Cut.ret ?_ | refine Rnd.ret ?_ | refine PW.block_normal ?_ | refine CW.exit ?_ | refine PW.then_exit ?_ | refine PW.block_hit ?_ | refine PW.block_miss rfl ?_ | refine Cut.exit ?_ | refine Rnd.exit ?_)
  refine CW.region ?_
  refine LE (os_alloc T.ti24) ?_
  rintro _ _ ⟨b2, rfl, rfl⟩
  refine LW.nil ?_
  repeat (first | refine CW.seq ?_ | refine PW.then_ ?_ | refine PW.then_to rfl ?_ | refine CW.block ?_ | refine CW.skip ?_ | refine CW.ret ?_ | refine PW.then_ret ?_ | refine PW.block_ret ?_ | refine Cut.ret ?_ | refine Rnd.ret ?_ | refine PW.block_normal ?_ | refine CW.exit ?_ | refine PW.then_exit ?_ | refine PW.block_hit ?_ | refine PW.block_miss rfl ?_ | refine Cut.exit ?_ | refine Rnd.exit ?_)
  refine CW.region ?_
  refine L1 (ps_move rfl).os ?_
  refine L1 (ps_len_sl T.un22 rfl).os ?_
  refine L1 (ps_to (u := .int .u64 (bs.length : Int)) (congrArg _ (wrap_u64_id (by omega) (by omega))) (ps_conv (by kernel_rfl) T.un41 rfl)).os ?_
  refine L1 (ps_to (u := .int .u64 ((n8 : Nat) : Int)) (congrArg _ e8) (ps_mul_u64 rfl rfl (by omega) (by omega))).os ?_
  refine L1 (ps_assign rfl).os ?_
  refine LW.nil ?_
  repeat (first | refine CW.seq ?_ | refine PW.then_ ?_ | refine PW.then_to rfl ?_ | refine CW.block ?_ | refine CW.skip ?_ | refine CW.ret ?_ | refine PW.then_ret ?_ | refine PW.block_ret ?_ | refine Cut.ret ?_ | refine Rnd.ret ?_ | refine PW.block_normal ?_ | refine CW.exit ?_ | refine PW.then_exit ?_ | refine PW.block_hit ?_ | refine PW.block_miss rfl ?_ | refine Cut.exit ?_ | refine Rnd.exit ?_)
  refine CW.region ?_
  refine L1 (ps_move rfl).os ?_
  refine LE (os_append0 (news := bv bs) T.un22 T.ti5 (by rfl) (by decide) rfl rfl (by simp) (hb.src (by repeat (first | exact pk_head _ _ | apply pk_tail))) (bv_one _) (by unfold maxLen; omega) (by omega)) ?_
  rintro _ _ ⟨q1, d1, rfl, rfl, hq1⟩
  refine L1 (ps_assign rfl).os ?_
  refine LW.nil ?_
  repeat (first | refine CW.seq ?_ | refine PW.then_ ?_ | refine PW.then_to rfl ?_ | refine CW.block ?_ | refine CW.skip ?_ | refine CW.ret ?_ | refine PW.then_ret ?_ | refine PW.block_ret ?_ | refine Cut.ret ?_ | refine Rnd.ret ?_ | refine PW.block_normal ?_ | refine CW.exit ?_ | refine PW.then_exit ?_ | refine PW.block_hit ?_ | refine PW.block_miss rfl ?_ | refine Cut.exit ?_ | refine Rnd.exit ?_)
  refine CW.region ?_
  refine L1 (ps_move rfl).os ?_
  refine LE (os_bslv (vs := bv [128]) T.un22 T.ti5 (by rfl) (by rfl) rfl (bv_one _) (by decide) (by decide)) ?_
  rintro _ _ ⟨b32, rfl, rfl⟩
  refine LE (os_append (xs := bv bs) (news := bv [128]) (by repeat (first | exact pk_head _ _ | apply pk_tail)) T.un22 T.ti5 (by rfl) (by decide) rfl rfl rfl (Src.cb (b := b32) (by repeat (first | exact pk_head _ _ | apply pk_tail)) rfl) (bv_one _) (by unfold maxLen; omega) (by omega)) ?_
  rintro _ _ ⟨q2, d2, rfl, rfl, hq2⟩
  refine L1 (ps_assign rfl).os ?_
  refine LW.nil ?_
  repeat (first | refine CW.seq ?_ | refine PW.then_ ?_ | refine PW.then_to rfl ?_ | refine CW.block ?_ | refine CW.skip ?_ | refine CW.ret ?_ | refine PW.then_ret ?_ | refine PW.block_ret ?_ | refine Cut.ret ?_ | refine Rnd.ret ?_ | refine PW.block_normal ?_ | refine CW.exit ?_ | refine PW.then_exit ?_ | refine PW.block_hit ?_ | refine PW.block_miss rfl ?_ | refine Cut.exit ?_ | refine Rnd.exit ?_)
  refine CW.loopM (α := Nat × Option Addr × Nat) [4, 34, 35, 36, 37, 38, 39, 40] (fun k a => a.1 ≤ K ∧ k = K - a.1) (fun a => [(4, .slice a.2.1 (bs.length + 1 + a.1) a.2.2)])
    (fun a => slOwn 5 1 (.slice a.2.1 (bs.length + 1 + a.1) a.2.2) (bs.length + 1 + a.1) (bv (bs ++ [0x80] ++ List.replicate a.1 0)) :: cb b2 24 (List.replicate 32 (.int .u8 0)) :: B :: F) K (0, q2, d2) ⟨Nat.zero_le _, rfl⟩ ⟨rfl, trivial⟩ (by
      rw [show bs ++ [0x80] ++ List.replicate 0 0 = bs ++ [0x80] by simp, bv_append]; exact (by repeat (first | exact Ent.refl _ | (apply Ent.cons; · repeat (first | exact pk_head _ _ | apply pk_tail)) | apply Ent.skip))) ?_
  rintro k ⟨i, q, d⟩ g ⟨hi, hk⟩
  dsimp only at hi hk ⊢
  repeat (first | refine CW.seq ?_ | refine PW.then_ ?_ | refine PW.then_to rfl ?_ | refine CW.block ?_ | refine CW.skip ?_ | refine CW.ret ?_ | refine PW.then_ret ?_ | refine PW.block_ret ?_ | refine Cut.ret ?_ | refine Rnd.ret ?_ | refine PW.block_normal ?_ | refine CW.exit ?_ | refine PW.then_exit ?_ | refine PW.block_hit ?_ | refine PW.block_miss rfl ?_ | refine Cut.exit ?_ | refine Rnd.exit ?_)
  by_cases hlt : i < K
  · have hne : (((bs.length + 1 + i) % 64 : Nat) : Int) ≠ 56 := by omega
    have hrep : bv (bs ++ [0x80] ++ List.replicate (i + 1) 0) = bv (bs ++ [0x80] ++ List.replicate i 0) ++ bv [0] := by
      rw [← bv_append, List.append_assoc _ (List.replicate i 0), ← List.replicate_succ']
    refine CW.region ?_
    refine L1 (ps_move rfl).os ?_
    refine L1 (ps_len_sl T.un22 rfl).os ?_
    refine L1 (ps_to (u := .int .i64 (((bs.length + 1 + i) % 64 : Nat) : Int)) (congrArg _ (by omega)) (ps_rem_pos rfl rfl (by omega) (by decide))).os ?_
    refine L1 (ps_t (ps_neq rfl rfl) (hne)).os ?_
    refine LW.nil ?_
    repeat (first | refine CW.seq ?_ | refine PW.then_ ?_ | refine PW.then_to rfl ?_ | refine CW.block ?_ | refine CW.skip ?_ | refine CW.ret ?_ | refine PW.then_ret ?_ | refine PW.block_ret ?_ | refine Cut.ret ?_ | refine Rnd.ret ?_ | refine PW.block_normal ?_ | refine CW.exit ?_ | refine PW.then_exit ?_ | refine PW.block_hit ?_ | refine PW.block_miss rfl ?_ | refine Cut.exit ?_ | refine Rnd.exit ?_)
    refine CW.cond_true rfl ?_
    repeat (first | refine CW.seq ?_ | refine PW.then_ ?_ | refine PW.then_to rfl ?_ | refine CW.block ?_ | refine CW.skip ?_ | refine CW.ret ?_ | refine PW.then_ret ?_ | refine PW.block_ret ?_ | refine Cut.ret ?_ | refine Rnd.ret ?_ | refine PW.block_normal ?_ | refine CW.exit ?_ | refine PW.then_exit ?_ | refine PW.block_hit ?_ | refine PW.block_miss rfl ?_ | refine Cut.exit ?_ | refine Rnd.exit ?_)
    refine CW.region ?_
    refine L1 (ps_move rfl).os ?_
    refine LE (os_bslv (vs := bv [0]) T.un22 T.ti5 (by rfl) (by rfl) rfl (bv_one _) (by decide) (by decide)) ?_
    rintro _ _ ⟨b39, rfl, rfl⟩
    refine LE (os_append (xs := bv (bs ++ [0x80] ++ List.replicate i 0)) (news := bv [0]) (by repeat (first | exact pk_head _ _ | apply pk_tail)) T.un22 T.ti5 (by rfl) (by decide) rfl rfl rfl (Src.cb (b := b39) (by repeat (first | exact pk_head _ _ | apply pk_tail)) rfl) (bv_one _) (by unfold maxLen; omega) (by omega)) ?_
    rintro _ _ ⟨q3, d3, rfl, rfl, hq3⟩
    refine L1 (ps_assign rfl).os ?_
    refine LW.nil ?_
    repeat (first | refine CW.seq ?_ | refine PW.then_ ?_ | refine PW.then_to rfl ?_ | refine CW.block ?_ | refine CW.skip ?_ | refine CW.ret ?_ | refine PW.then_ret ?_ | refine PW.block_ret ?_ | refine Cut.ret ?_ | refine Rnd.ret ?_ | refine PW.block_normal ?_ | refine CW.exit ?_ | refine PW.then_exit ?_ | refine PW.block_hit ?_ | refine PW.block_miss rfl ?_ | refine Cut.exit ?_ | refine Rnd.exit ?_)
    exact Meet.round (K - (i + 1)) (i + 1, q3, d3) (by omega) ⟨hlt, rfl⟩ (by repeat (first | (with_reducible exact Ag.refl _ _) | (with_reducible apply Ag.pu0) | ((with_reducible refine Ag.pu _ ?_ ?_); · exact rfl) | ((with_reducible refine Ag.mix ?_ ?_); · exact rfl) | ((with_reducible refine Ag.pus ?_ ?_); · exact rfl))) ⟨rfl, trivial⟩ (by dsimp only; rw [hrep, ← Nat.add_assoc]; exact (by repeat (first | exact Ent.refl _ | (apply Ent.cons; · repeat (first | exact pk_head _ _ | apply pk_tail)) | apply Ent.skip)))
  have hiK : i = K := by omega
  subst hiK
  have heq : (((bs.length + 1 + i) % 64 : Nat) : Int) = 56 := by omega
  have hpre : (bs ++ [0x80] ++ List.replicate i (0 : UInt8)).length = bs.length + 1 + i := by simp; omega
  generalize hpr : bs ++ [0x80] ++ List.replicate i 0 = pre at hpad hpre ⊢
  generalize hm : bs.length + 1 + i = m at heq hpre hp9 ⊢
  refine CW.region ?_
  refine L1 (ps_move rfl).os ?_
  refine L1 (ps_len_sl T.un22 rfl).os ?_
  refine L1 (ps_to (u := .int .i64 ((m % 64 : Nat) : Int)) (congrArg _ (by omega)) (ps_rem_pos rfl rfl (by omega) (by decide))).os ?_
  refine L1 (ps_f (ps_neq rfl rfl) ((fun h => h heq))).os ?_
  refine LW.nil ?_
  repeat (first | refine CW.seq ?_ | refine PW.then_ ?_ | refine PW.then_to rfl ?_ | refine CW.block ?_ | refine CW.skip ?_ | refine CW.ret ?_ | refine PW.then_ret ?_ | refine PW.block_ret ?_ | refine Cut.ret ?_ | refine Rnd.ret ?_ | refine PW.block_normal ?_ | refine CW.exit ?_ | refine PW.then_exit ?_ | refine PW.block_hit ?_ | refine PW.block_miss rfl ?_ | refine Cut.exit ?_ | refine Rnd.exit ?_)
  refine CW.cond_false rfl ?_
  repeat (first | refine CW.seq ?_ | refine PW.then_ ?_ | refine PW.then_to rfl ?_ | refine CW.block ?_ | refine CW.skip ?_ | refine CW.ret ?_ | refine PW.then_ret ?_ | refine PW.block_ret ?_ | refine Cut.ret ?_ | refine Rnd.ret ?_ | refine PW.block_normal ?_ | refine CW.exit ?_ | refine PW.then_exit ?_ | refine PW.block_hit ?_ | refine PW.block_miss rfl ?_ | refine Cut.exit ?_ | refine Rnd.exit ?_)
  refine CW.region ?_
  refine L1 (ps_assign rfl).os ?_
  refine LW.nil ?_
  repeat (first | refine CW.seq ?_ | refine PW.then_ ?_ | refine PW.then_to rfl ?_ | refine CW.block ?_ | refine CW.skip ?_ | refine CW.ret ?_ | refine PW.then_ret ?_ | refine PW.block_ret ?_ | refine Cut.ret ?_ | refine Rnd.ret ?_ | refine PW.block_normal ?_ | refine CW.exit ?_ | refine PW.then_exit ?_ | refine PW.block_hit ?_ | refine PW.block_miss rfl ?_ | refine Cut.exit ?_ | refine Rnd.exit ?_)
  refine CW.loopM (α := Nat × Option Addr × Nat) [4, 5, 41, 42, 43, 44, 45, 46, 47, 48, 49, 50, 51, 52, 53] (fun k a => a.1 ≤ 8 ∧ k = 8 - a.1) (fun a => [(5, .int .i64 (7 - (a.1 : Int))), (4, .slice a.2.1 (m + a.1) a.2.2)])
    (fun a => slOwn 5 1 (.slice a.2.1 (m + a.1) a.2.2) (m + a.1) (bv (pre ++ (be 8 ((n8 : Nat) : Int)).take a.1)) :: cb b2 24 (List.replicate 32 (.int .u8 0)) :: B :: F) 8 (0, q, d) ⟨Nat.zero_le _, rfl⟩ ⟨rfl, rfl, trivial⟩ (by
      rw [List.take_zero, List.append_nil]; exact (by repeat (first | exact Ent.refl _ | (apply Ent.cons; · repeat (first | exact pk_head _ _ | apply pk_tail)) | apply Ent.skip))) ?_
  rintro k ⟨j, q4, d4⟩ g2 ⟨hj, hk2⟩
  dsimp only at hj hk2 ⊢
  repeat (first | refine CW.seq ?_ | refine PW.then_ ?_ | refine PW.then_to rfl ?_ | refine CW.block ?_ | refine CW.skip ?_ | refine CW.ret ?_ | refine PW.then_ret ?_ | refine PW.block_ret ?_ | refine Cut.ret ?_ | refine Rnd.ret ?_ | refine PW.block_normal ?_ | refine CW.exit ?_ | refine PW.then_exit ?_ | refine PW.block_hit ?_ | refine PW.block_miss rfl ?_ | refine Cut.exit ?_ | refine Rnd.exit ?_)
  by_cases hjt : j < 8
  · have hbt := be_take_succ 8 ((n8 : Nat) : Int) j hjt
    have hbn := by8_nat n8 (8 * (8 - 1 - j))
    have hap : bv (pre ++ (be 8 ((n8 : Nat) : Int)).take (j + 1)) = bv (pre ++ (be 8 ((n8 : Nat) : Int)).take j) ++ bv [by8 (((n8 : Nat) : Int) / 2 ^ (8 * (8 - 1 - j)))] := by
      rw [hbt, ← List.append_assoc, bv_append]
    generalize by8 (((n8 : Nat) : Int) / 2 ^ (8 * (8 - 1 - j))) = c at hbn hap
    obtain ⟨s8, hs8⟩ : ∃ s8, 8 * (8 - 1 - j) = s8 := ⟨_, rfl⟩
    rw [hs8] at hbn
    refine CW.region ?_
    refine L1 (ps_move rfl).os ?_
    refine L1 (ps_t (ps_geq rfl rfl) (by omega)).os ?_
    refine LW.nil ?_
    repeat (first | refine CW.seq ?_ | refine PW.then_ ?_ | refine PW.then_to rfl ?_ | refine CW.block ?_ | refine CW.skip ?_ | refine CW.ret ?_ | refine PW.then_ret ?_ | refine PW.block_ret ?_ | refine Cut.ret ?_ | refine Rnd.ret ?_ | refine PW.block_normal ?_ | refine CW.exit ?_ | refine PW.then_exit ?_ | refine PW.block_hit ?_ | refine PW.block_miss rfl ?_ | refine Cut.exit ?_ | refine Rnd.exit ?_)
    refine CW.cond_true rfl ?_
    repeat (first | refine CW.seq ?_ | refine PW.then_ ?_ | refine PW.then_to rfl ?_ | refine CW.block ?_ | refine CW.skip ?_ | refine CW.ret ?_ | refine PW.then_ret ?_ | refine PW.block_ret ?_ | refine Cut.ret ?_ | refine Rnd.ret ?_ | refine PW.block_normal ?_ | refine CW.exit ?_ | refine PW.then_exit ?_ | refine PW.block_hit ?_ | refine PW.block_miss rfl ?_ | refine Cut.exit ?_ | refine Rnd.exit ?_)
    refine CW.region ?_
    refine L1 (ps_move rfl).os ?_
    refine L1 (ps_move rfl).os ?_
    refine L1 (ps_move rfl).os ?_
    refine L1 (ps_to (u := .int .i64 ((s8 : Nat) : Int)) (congrArg (Value.int .i64) (show (8 : Int) * (7 - (j : Int)) = ((s8 : Nat) : Int) by omega)) (ps_mul_i64 rfl rfl (by omega) (by omega))).os ?_
    refine L1 (ps_to (u := .int .u64 ((s8 : Nat) : Int)) (congrArg _ (wrap_u64_id (by omega) (by omega))) (ps_conv (by kernel_rfl) T.un42 rfl)).os ?_
    refine L1 (ps_shrN n8 s8 rfl rfl rfl (by show s8 ≤ 64; omega)).os ?_
    refine L1 (ps_to (u := .int .u8 (c.toNat : Int)) (congrArg _ hbn) (ps_conv (by kernel_rfl) T.un5 rfl)).os ?_
    refine LE (os_bslv (vs := bv [c]) T.un22 T.ti5 (by rfl) (by rfl) rfl (bv_one _) (by decide) (by decide)) ?_
    rintro _ _ ⟨b52, rfl, rfl⟩
    refine LE (os_append (xs := bv (pre ++ (be 8 ((n8 : Nat) : Int)).take j)) (news := bv [c]) (by repeat (first | exact pk_head _ _ | apply pk_tail)) T.un22 T.ti5 (by rfl) (by decide) rfl rfl rfl (Src.cb (b := b52) (by repeat (first | exact pk_head _ _ | apply pk_tail)) rfl) (bv_one _) (by unfold maxLen; omega) (by omega)) ?_
    rintro _ _ ⟨q5, d5, rfl, rfl, hq5⟩
    refine L1 (ps_assign rfl).os ?_
    refine LW.nil ?_
    repeat (first | refine CW.seq ?_ | refine PW.then_ ?_ | refine PW.then_to rfl ?_ | refine CW.block ?_ | refine CW.skip ?_ | refine CW.ret ?_ | refine PW.then_ret ?_ | refine PW.block_ret ?_ | refine Cut.ret ?_ | refine Rnd.ret ?_ | refine PW.block_normal ?_ | refine CW.exit ?_ | refine PW.then_exit ?_ | refine PW.block_hit ?_ | refine PW.block_miss rfl ?_ | refine Cut.exit ?_ | refine Rnd.exit ?_)
    refine CW.region ?_
    refine L1 (ps_move rfl).os ?_
    refine L1 (ps_to (u := .int .i64 (7 - ((j + 1 : Nat) : Int))) (congrArg (Value.int .i64) (show (7 : Int) - (j : Int) - 1 = 7 - ((j + 1 : Nat) : Int) by omega)) (ps_sub_i64 rfl rfl (by omega) (by omega))).os ?_
    refine L1 (ps_assign rfl).os ?_
    refine LW.nil ?_
    exact Meet.round (8 - (j + 1)) (j + 1, q5, d5) (by omega) ⟨hjt, rfl⟩ (by repeat (first | (with_reducible exact Ag.refl _ _) | (with_reducible apply Ag.pu0) | ((with_reducible refine Ag.pu _ ?_ ?_); · exact rfl) | ((with_reducible refine Ag.mix ?_ ?_); · exact rfl) | ((with_reducible refine Ag.pus ?_ ?_); · exact rfl))) ⟨rfl, rfl, trivial⟩ (by dsimp only; rw [hap, ← Nat.add_assoc]; exact (by repeat (first | exact Ent.refl _ | (apply Ent.cons; · repeat (first | exact pk_head _ _ | apply pk_tail)) | apply Ent.skip)))
  have hj8 : j = 8 := by omega
  subst hj8
  rw [List.take_of_length_le (by rw [length_be]; exact Nat.le_refl _), ← hpad]
  refine CW.region ?_
  refine L1 (ps_move rfl).os ?_
  refine L1 (ps_f (ps_geq rfl rfl) (by omega)).os ?_
  refine LW.nil ?_
  repeat (first | refine CW.seq ?_ | refine PW.then_ ?_ | refine PW.then_to rfl ?_ | refine CW.block ?_ | refine CW.skip ?_ | refine CW.ret ?_ | refine PW.then_ret ?_ | refine PW.block_ret ?_ | refine Cut.ret ?_ | refine Rnd.ret ?_ | refine PW.block_normal ?_ | refine CW.exit ?_ | refine PW.then_exit ?_ | refine PW.block_hit ?_ | refine PW.block_miss rfl ?_ | refine Cut.exit ?_ | refine Rnd.exit ?_)
  refine CW.cond_false rfl ?_
  repeat (first | refine CW.seq ?_ | refine PW.then_ ?_ | refine PW.then_to rfl ?_ | refine CW.block ?_ | refine CW.skip ?_ | refine CW.ret ?_ | refine PW.then_ret ?_ | refine PW.block_ret ?_ | refine Cut.ret ?_ | refine Rnd.ret ?_ | refine PW.block_normal ?_ | refine CW.exit ?_ | refine PW.then_exit ?_ | refine PW.block_hit ?_ | refine PW.block_miss rfl ?_ | refine Cut.exit ?_ | refine Rnd.exit ?_)
  generalize padM bs = pd at hpl hsum hp9 ⊢
  generalize hM8 : pd.length / 64 = M at hpl hsum
  have hm8 : m + 8 = pd.length := by omega
  have hpm : pd.length ≤ 1000100 := by omega
  refine slOwn_info (m := m + 8) (xs := bv pd) (by repeat (first | exact pk_head _ _ | apply pk_tail)) fun o1 o2 o3 => ?_
  have hbp := ByR.own (e := 5) (m := m + 8) (d := d4) (q := q4) (bs := pd) hm8.symm o1 o3
  obtain ⟨vb, rfl⟩ := o3 (by omega)
  generalize slOwn 5 1 (.slice (some ⟨vb, 0, none⟩) (m + 8) d4) (m + 8) (bv pd) = Y at hbp ⊢
  rw [hm8] at *
  clear hpad hpre hpr heq hK hn8 e8
  refine CW.region ?_
  refine LE (os_call (pre := []) roots64_spec Tryd.func15 (by decide +kernel) rfl rfl (List.Perm.refl _)) ?_
  rintro _ _ ⟨_, ⟨qk, dk, rfl, rfl⟩, rfl⟩
  refine slOwn_info (pk_head _ _) fun r1 r2 r3 => ?_
  obtain ⟨gk, rfl⟩ := r3 (by decide)
  refine L1 (ps_assign rfl).os ?_
  refine LW.nil ?_
  have hkS := fun As Bs (hp : List.Perm As (_ :: Bs)) => Src.own (e := 45) (m := 64) (d := dk) (q := some ⟨gk, 0, none⟩) (xs := wv roundsL) (by rfl) (fun _ => ⟨gk, rfl⟩) hp
  generalize slOwn 45 1 (.slice (some ⟨gk, 0, none⟩) 64 dk) 64 (wv roundsL) = RK at hkS ⊢
  repeat (first | refine CW.seq ?_ | refine PW.then_ ?_ | refine PW.then_to rfl ?_ | refine CW.block ?_ | refine CW.skip ?_ | refine CW.ret ?_ | refine PW.then_ret ?_ | refine PW.block_ret ?_ | refine Cut.ret ?_ | refine Rnd.ret ?_ | refine PW.block_normal ?_ | refine CW.exit ?_ | refine PW.then_exit ?_ | refine PW.block_hit ?_ | refine PW.block_miss rfl ?_ | refine Cut.exit ?_ | refine Rnd.exit ?_)
  refine CW.region ?_
  refine LE (os_call (pre := []) roots8_spec Tryd.func15 (by decide +kernel) rfl rfl (List.Perm.refl _)) ?_
  rintro _ _ ⟨_, ⟨qh, dh, rfl, rfl⟩, rfl⟩
  refine slOwn_info (pk_head _ _) fun r4 r5 r6 => ?_
  obtain ⟨gh, rfl⟩ := r6 (by decide)
  refine L1 (ps_assign rfl).os ?_
  refine LW.nil ?_
  repeat (first | refine CW.seq ?_ | refine PW.then_ ?_ | refine PW.then_to rfl ?_ | refine CW.block ?_ | refine CW.skip ?_ | refine CW.ret ?_ | refine PW.then_ret ?_ | refine PW.block_ret ?_ | refine Cut.ret ?_ | refine Rnd.ret ?_ | refine PW.block_normal ?_ | refine CW.exit ?_ | refine PW.then_exit ?_ | refine PW.block_hit ?_ | refine PW.block_miss rfl ?_ | refine Cut.exit ?_ | refine Rnd.exit ?_)
  refine CW.region ?_
  refine L1 (ps_assign rfl).os ?_
  refine LW.nil ?_
  repeat (first | refine CW.seq ?_ | refine PW.then_ ?_ | refine PW.then_to rfl ?_ | refine CW.block ?_ | refine CW.skip ?_ | refine CW.ret ?_ | refine PW.then_ret ?_ | refine PW.block_ret ?_ | refine Cut.ret ?_ | refine Rnd.ret ?_ | refine PW.block_normal ?_ | refine CW.exit ?_ | refine PW.then_exit ?_ | refine PW.block_hit ?_ | refine PW.block_miss rfl ?_ | refine Cut.exit ?_ | refine Rnd.exit ?_)
  refine CW.loopM (α := Nat) [8, 9, 10, 11, 12, 13, 14, 15, 16, 17, 18, 19, 20, 21, 22, 56, 57, 58, 59, 60, 61, 62, 63, 64, 65, 66, 67, 68, 69, 70, 71, 72, 73, 74, 75, 76, 77, 78, 79, 80, 81, 82, 83, 84, 85, 86, 87, 88, 89, 90, 91, 92, 93, 94, 95, 96, 97, 98, 99, 100, 101, 102, 103, 104, 105, 106, 107, 108, 109, 110, 111, 112, 113, 114, 115, 116, 117, 118, 119, 120, 121, 122, 123, 124, 125, 126, 127, 128, 129, 130, 131, 132, 133, 134, 135, 136, 137, 138, 139, 140, 141, 142, 143, 144, 145, 146, 147, 148, 149, 150, 151, 152, 153, 154, 155, 156, 157, 158, 159, 160, 161, 162, 163, 164, 165, 166, 167, 168, 169, 170, 171, 172, 173, 174, 175, 176, 177, 178, 179, 180, 181, 182, 183, 184, 185, 186, 187, 188, 189, 190, 191, 192, 193, 194, 195, 196, 197, 198, 199, 200, 201, 202, 203, 204, 205, 206, 207, 208, 209, 210, 211, 212, 213, 214, 215, 216, 217, 218, 219, 220, 221, 222, 223, 224, 225, 226, 227, 228, 229, 230, 231, 232, 233, 234, 235, 236, 237, 238, 239, 240, 241, 242, 243, 244, 245, 246, 247, 248, 249, 250, 251, 252, 253, 254, 255, 256, 257, 258, 259, 260, 261, 262, 263, 264, 265, 266, 267, 268, 269, 270, 271, 272, 273, 274, 275, 276, 277, 278, 279, 280, 281, 282, 283, 284, 285, 286, 287, 288, 289, 290, 291] (fun k i => i ≤ M ∧ k = M - i) (fun i => [(8, .int .i64 ((64 * i : Nat) : Int))])
    (fun i => slOwn 45 1 (.slice (some ⟨gh, 0, none⟩) 8 dh) 8 (wv (hM pd i)) :: RK :: Y :: cb b2 24 (List.replicate 32 (.int .u8 0)) :: B :: F) M 0 ⟨Nat.zero_le _, rfl⟩ ⟨rfl, trivial⟩ (by repeat (first | exact Ent.refl _ | (apply Ent.cons; · repeat (first | exact pk_head _ _ | apply pk_tail)) | apply Ent.skip)) ?_
  rintro k i' g3 ⟨hi3, hk3⟩
  repeat (first | refine CW.seq ?_ | refine PW.then_ ?_ | refine PW.then_to rfl ?_ | refine CW.block ?_ | refine CW.skip ?_ | refine CW.ret ?_ | refine PW.then_ret ?_ | refine PW.block_ret ?_ | refine Cut.ret ?_ | refine Rnd.ret ?_ | refine PW.block_normal ?_ | refine CW.exit ?_ | refine PW.then_exit ?_ | refine PW.block_hit ?_ | refine PW.block_miss rfl ?_ | refine Cut.exit ?_ | refine Rnd.exit ?_)
  by_cases hlt3 : i' < M
  · have hhl := hM_len pd i'
    have hhs : hM pd (i' + 1) = blockM (hM pd i') ((pd.drop (64 * i')).take 64) := rfl
    have h64 : 64 * i' + 64 ≤ pd.length := by omega
    generalize hM pd i' = h at hhl hhs ⊢
    generalize hqq : (pd.drop (64 * i')).take 64 = qs at hhs
    have hhv : (wv h).length = 8 := by rw [length_wv, hhl]
    have hhS := fun As Bs (hp : List.Perm As (_ :: Bs)) => Src.own (e := 45) (m := 8) (d := dh) (q := some ⟨gh, 0, none⟩) (xs := wv h) hhv (fun _ => ⟨gh, rfl⟩) hp
    have hw00 : wA qs 0 = List.replicate 64 0 := (wA_0 qs).symm
    refine CW.region ?_
    refine L1 (ps_move rfl).os ?_
    refine L1 (ps_move rfl).os ?_
    refine L1 (ps_len_sl T.un22 rfl).os ?_
    refine L1 (ps_t (ps_lss rfl rfl) (by omega)).os ?_
    refine LW.nil ?_
    repeat (first | refine CW.seq ?_ | refine PW.then_ ?_ | refine PW.then_to rfl ?_ | refine CW.block ?_ | refine CW.skip ?_ | refine CW.ret ?_ | refine PW.then_ret ?_ | refine PW.block_ret ?_ | refine Cut.ret ?_ | refine Rnd.ret ?_ | refine PW.block_normal ?_ | refine CW.exit ?_ | refine PW.then_exit ?_ | refine PW.block_hit ?_ | refine PW.block_miss rfl ?_ | refine Cut.exit ?_ | refine Rnd.exit ?_)
    refine CW.cond_true rfl ?_
    repeat (first | refine CW.seq ?_ | refine PW.then_ ?_ | refine PW.then_to rfl ?_ | refine CW.block ?_ | refine CW.skip ?_ | refine CW.ret ?_ | refine PW.then_ret ?_ | refine PW.block_ret ?_ | refine Cut.ret ?_ | refine Rnd.ret ?_ | refine PW.block_normal ?_ | refine CW.exit ?_ | refine PW.then_exit ?_ | refine PW.block_hit ?_ | refine PW.block_miss rfl ?_ | refine Cut.exit ?_ | refine Rnd.exit ?_)
    refine CW.region ?_
    refine LE (os_make32 64 T.un43 T.ti45 rfl rfl (by decide)) ?_
    rintro _ _ ⟨b62, rfl, rfl⟩
    refine L1 (ps_assign rfl).os ?_
    refine LW.nil ?_
    repeat (first | refine CW.seq ?_ | refine PW.then_ ?_ | refine PW.then_to rfl ?_ | refine CW.block ?_ | refine CW.skip ?_ | refine CW.ret ?_ | refine PW.then_ret ?_ | refine PW.block_ret ?_ | refine Cut.ret ?_ | refine Rnd.ret ?_ | refine PW.block_normal ?_ | refine CW.exit ?_ | refine PW.then_exit ?_ | refine PW.block_hit ?_ | refine PW.block_miss rfl ?_ | refine Cut.exit ?_ | refine Rnd.exit ?_)
    refine CW.region ?_
    refine L1 (ps_assign rfl).os ?_
    refine LW.nil ?_
    refine PW.then_ ?_
    refine Piece.use (rWords pd qs vb d4 b62 i' Y hbp hqq h64 hpm) ⟨rfl, rfl, rfl, rfl, trivial⟩ (pkc (by repeat (first | exact pk_head _ _ | apply pk_tail)) (pkc (by repeat (first | exact pk_head _ _ | apply pk_tail)) (pkn _))) ?_
    rintro _ _ _
    show PW _ _ _ _ _ (_ :: _ :: _)
    have hwl := w2_len qs 48
    have hbm : blockM h qs = List.zipWith (· + ·) h (rds h (w2 qs 48) 64) := rfl
    rw [hbm] at hhs
    generalize w2 qs 48 = w at hwl hhs ⊢
    repeat (first | refine CW.seq ?_ | refine PW.then_ ?_ | refine PW.then_to rfl ?_ | refine CW.block ?_ | refine CW.skip ?_ | refine CW.ret ?_ | refine PW.then_ret ?_ | refine PW.block_ret ?_ | refine Cut.ret ?_ | refine Rnd.ret ?_ | refine PW.block_normal ?_ | refine CW.exit ?_ | refine PW.then_exit ?_ | refine PW.block_hit ?_ | refine PW.block_miss rfl ?_ | refine Cut.exit ?_ | refine Rnd.exit ?_)
    refine CW.region ?_
    refine L1 (ps_move rfl).os ?_
    refine LE (os_append0 (news := wv h) T.un43 T.ti45 (by rfl) (by decide) rfl rfl (by rw [hhv]) (hhS _ _ (by repeat (first | exact pk_head _ _ | apply pk_tail))) (wv_one _) (by decide) (by decide)) ?_
    rintro _ _ ⟨qv, dv, rfl, rfl, hqv⟩
    refine slOwn_info (pk_head _ _) fun v1 v2 v3 => ?_
    obtain ⟨gv, rfl⟩ := v3 (by decide)
    refine L1 (ps_assign rfl).os ?_
    refine LW.nil ?_
    repeat (first | refine CW.seq ?_ | refine PW.then_ ?_ | refine PW.then_to rfl ?_ | refine CW.block ?_ | refine CW.skip ?_ | refine CW.ret ?_ | refine PW.then_ret ?_ | refine PW.block_ret ?_ | refine Cut.ret ?_ | refine Rnd.ret ?_ | refine PW.block_normal ?_ | refine CW.exit ?_ | refine PW.then_exit ?_ | refine PW.block_hit ?_ | refine PW.block_miss rfl ?_ | refine Cut.exit ?_ | refine Rnd.exit ?_)
    refine CW.region ?_
    refine L1 (ps_assign rfl).os ?_
    refine LW.nil ?_
    refine PW.then_ ?_
    refine Piece.use (rRounds h w b62 gk dk gv dv hhl hwl RK hkS) ⟨rfl, rfl, rfl, rfl, trivial⟩ (pkc (by repeat (first | exact pk_head _ _ | apply pk_tail)) (pkc (by repeat (first | exact pk_head _ _ | apply pk_tail)) (pkc (by repeat (first | exact pk_head _ _ | apply pk_tail)) (pkn _)))) ?_
    rintro ⟨g6v, d6v⟩ _ _
    have hsl := rds_len h w hhl 64
    generalize rds h w 64 = s at hsl hhs ⊢
    show PW _ _ _ _ _ (_ :: _ :: _ :: _)
    repeat (first | refine CW.seq ?_ | refine PW.then_ ?_ | refine PW.then_to rfl ?_ | refine CW.block ?_ | refine CW.skip ?_ | refine CW.ret ?_ | refine PW.then_ret ?_ | refine PW.block_ret ?_ | refine Cut.ret ?_ | refine Rnd.ret ?_ | refine PW.block_normal ?_ | refine CW.exit ?_ | refine PW.then_exit ?_ | refine PW.block_hit ?_ | refine PW.block_miss rfl ?_ | refine Cut.exit ?_ | refine Rnd.exit ?_)
    refine CW.region ?_
    refine L1 (ps_assign rfl).os ?_
    refine LW.nil ?_
    refine PW.then_ ?_
    refine Piece.use (rMix h s gh dh g6v d6v hhl hsl) ⟨rfl, rfl, rfl, trivial⟩ (pkc (by repeat (first | exact pk_head _ _ | apply pk_tail)) (pkc (by repeat (first | exact pk_head _ _ | apply pk_tail)) (pkn _))) ?_
    rintro _ _ _
    show PW _ _ _ _ _ (_ :: _ :: _)
    repeat (first | refine CW.seq ?_ | refine PW.then_ ?_ | refine PW.then_to rfl ?_ | refine CW.block ?_ | refine CW.skip ?_ | refine CW.ret ?_ | refine PW.then_ret ?_ | refine PW.block_ret ?_ | refine Cut.ret ?_ | refine Rnd.ret ?_ | refine PW.block_normal ?_ | refine CW.exit ?_ | refine PW.then_exit ?_ | refine PW.block_hit ?_ | refine PW.block_miss rfl ?_ | refine Cut.exit ?_ | refine Rnd.exit ?_)
    refine CW.region ?_
    refine L1 (ps_move rfl).os ?_
    refine L1 (ps_to (u := .int .i64 ((64 * (i' + 1) : Nat) : Int)) (congrArg _ (by omega)) (ps_add_i64 rfl rfl (by omega) (by omega))).os ?_
    refine L1 (ps_assign rfl).os ?_
    refine LW.nil ?_
    exact Meet.round (M - (i' + 1)) (i' + 1) (by omega) ⟨hlt3, rfl⟩ (by repeat (first | (with_reducible exact Ag.refl _ _) | (with_reducible apply Ag.pu0) | ((with_reducible refine Ag.pu _ ?_ ?_); · exact rfl) | ((with_reducible refine Ag.mix ?_ ?_); · exact rfl) | ((with_reducible refine Ag.pus ?_ ?_); · exact rfl))) ⟨rfl, trivial⟩ (by rw [hhs]; exact (by repeat (first | exact Ent.refl _ | (apply Ent.cons; · repeat (first | exact pk_head _ _ | apply pk_tail)) | apply Ent.skip)))
  have hiM : i' = M := by omega
  subst hiM
  have hhl := hM_len pd i'
  rw [hsum]
  generalize hM pd i' = h at hhl ⊢
  have hhv : (wv h).length = 8 := by rw [length_wv, hhl]
  have hhS := fun As Bs (hp : List.Perm As (_ :: Bs)) => Src.own (e := 45) (m := 8) (d := dh) (q := some ⟨gh, 0, none⟩) (xs := wv h) hhv (fun _ => ⟨gh, rfl⟩) hp
  refine CW.region ?_
  refine L1 (ps_move rfl).os ?_
  refine L1 (ps_move rfl).os ?_
  refine L1 (ps_len_sl T.un22 rfl).os ?_
  refine L1 (ps_f (ps_lss rfl rfl) (by omega)).os ?_
  refine LW.nil ?_
  repeat (first | refine CW.seq ?_ | refine PW.then_ ?_ | refine PW.then_to rfl ?_ | refine CW.block ?_ | refine CW.skip ?_ | refine CW.ret ?_ | refine PW.then_ret ?_ | refine PW.block_ret ?_ | refine Cut.ret ?_ | refine Rnd.ret ?_ | refine PW.block_normal ?_ | refine CW.exit ?_ | refine PW.then_exit ?_ | refine PW.block_hit ?_ | refine PW.block_miss rfl ?_ | refine Cut.exit ?_ | refine Rnd.exit ?_)
  refine CW.cond_false rfl ?_
  repeat (first | refine CW.seq ?_ | refine PW.then_ ?_ | refine PW.then_to rfl ?_ | refine CW.block ?_ | refine CW.skip ?_ | refine CW.ret ?_ | refine PW.then_ret ?_ | refine PW.block_ret ?_ | refine Cut.ret ?_ | refine Rnd.ret ?_ | refine PW.block_normal ?_ | refine CW.exit ?_ | refine PW.then_exit ?_ | refine PW.block_hit ?_ | refine PW.block_miss rfl ?_ | refine Cut.exit ?_ | refine Rnd.exit ?_)
  refine CW.region ?_
  refine LE (os_alloc (z32 h ▸ T.ti24)) ?_
  rintro _ _ ⟨b23, rfl, rfl⟩
  refine LW.nil ?_
  repeat (first | refine CW.seq ?_ | refine PW.then_ ?_ | refine PW.then_to rfl ?_ | refine CW.block ?_ | refine CW.skip ?_ | refine CW.ret ?_ | refine PW.then_ret ?_ | refine PW.block_ret ?_ | refine Cut.ret ?_ | refine Rnd.ret ?_ | refine PW.block_normal ?_ | refine CW.exit ?_ | refine PW.then_exit ?_ | refine PW.block_hit ?_ | refine PW.block_miss rfl ?_ | refine Cut.exit ?_ | refine Rnd.exit ?_)
  refine CW.region ?_
  refine L1 (ps_assign rfl).os ?_
  refine LW.nil ?_
  repeat (first | refine CW.seq ?_ | refine PW.then_ ?_ | refine PW.then_to rfl ?_ | refine CW.block ?_ | refine CW.skip ?_ | refine CW.ret ?_ | refine PW.then_ret ?_ | refine PW.block_ret ?_ | refine Cut.ret ?_ | refine Rnd.ret ?_ | refine PW.block_normal ?_ | refine CW.exit ?_ | refine PW.then_exit ?_ | refine PW.block_hit ?_ | refine PW.block_miss rfl ?_ | refine Cut.exit ?_ | refine Rnd.exit ?_)
  refine CW.loopM (α := Nat) [24, 292, 293, 294, 295, 296, 297, 298, 299, 300, 301, 302, 303, 304, 305, 306, 307, 308, 309] (fun k i => i ≤ 32 ∧ k = 32 - i) (fun i => [(24, .int .i64 i)])
    (fun i => cb b23 24 (bv ((outM h).take i ++ List.replicate (32 - i) 0)) :: slOwn 45 1 (.slice (some ⟨gh, 0, none⟩) 8 dh) 8 (wv h) :: cb b2 24 (List.replicate 32 (.int .u8 0)) :: B :: F) 32 0 ⟨Nat.zero_le _, rfl⟩ ⟨rfl, trivial⟩ (by repeat (first | exact Ent.refl _ | (apply Ent.cons; · repeat (first | exact pk_head _ _ | apply pk_tail)) | apply Ent.skip)) ?_
  rintro k i4 g4 ⟨hi4, hk4⟩
  repeat (first | refine CW.seq ?_ | refine PW.then_ ?_ | refine PW.then_to rfl ?_ | refine CW.block ?_ | refine CW.skip ?_ | refine CW.ret ?_ | refine PW.then_ret ?_ | refine PW.block_ret ?_ | refine Cut.ret ?_ | refine Rnd.ret ?_ | refine PW.block_normal ?_ | refine CW.exit ?_ | refine PW.then_exit ?_ | refine PW.block_hit ?_ | refine PW.block_miss rfl ?_ | refine Cut.exit ?_ | refine Rnd.exit ?_)
  by_cases hlt4 : i4 < 32
  · have hsrc := fun As Bs hp => srcAt (hhS As Bs hp) (i4 / 4) (by omega)
    have hog := out_get h i4 hlt4
    have hol : ((outM h).take i4).length = i4 := by rw [List.length_take, outM_len]; omega
    obtain ⟨s8, hs8⟩ : ∃ s8, 24 - 8 * (i4 % 4) = s8 := ⟨_, rfl⟩
    rw [hs8] at hog
    generalize h.getD (i4 / 4) 0 = x at hsrc hog
    have hst := out_set ((outM h).take i4) i4 (UInt8.ofNat (x >>> UInt32.ofNat s8).toNat) hol hlt4
    rw [← hog] at hst
    have hbl : (bv ((outM h).take i4 ++ List.replicate (32 - i4) 0)).length = 32 := by rw [length_bv, List.length_append, hol, List.length_replicate]; omega
    refine CW.region ?_
    refine L1 (ps_move rfl).os ?_
    refine L1 (ps_t (ps_lss rfl rfl) (by omega)).os ?_
    refine LW.nil ?_
    repeat (first | refine CW.seq ?_ | refine PW.then_ ?_ | refine PW.then_to rfl ?_ | refine CW.block ?_ | refine CW.skip ?_ | refine CW.ret ?_ | refine PW.then_ret ?_ | refine PW.block_ret ?_ | refine Cut.ret ?_ | refine Rnd.ret ?_ | refine PW.block_normal ?_ | refine CW.exit ?_ | refine PW.then_exit ?_ | refine PW.block_hit ?_ | refine PW.block_miss rfl ?_ | refine Cut.exit ?_ | refine Rnd.exit ?_)
    refine CW.cond_true rfl ?_
    repeat (first | refine CW.seq ?_ | refine PW.then_ ?_ | refine PW.then_to rfl ?_ | refine CW.block ?_ | refine CW.skip ?_ | refine CW.ret ?_ | refine PW.then_ret ?_ | refine PW.block_ret ?_ | refine Cut.ret ?_ | refine Rnd.ret ?_ | refine PW.block_normal ?_ | refine CW.exit ?_ | refine PW.then_exit ?_ | refine PW.block_hit ?_ | refine PW.block_miss rfl ?_ | refine Cut.exit ?_ | refine Rnd.exit ?_)
    refine CW.region ?_
    refine L1 (ps_move rfl).os ?_
    refine L1 (ps_move rfl).os ?_
    refine L1 (ps_move rfl).os ?_
    refine L1 (ps_to (u := .int .i64 ((i4 / 4 : Nat) : Int)) (congrArg _ (by rw [Int.tdiv_eq_ediv_of_nonneg (by omega), wrap_i64_id (by omega) (by omega)]; omega)) (ps_quo rfl rfl (by decide))).os ?_
    refine L1 (ps_ia_slice T.un43 T.sz45 rfl rfl (by omega) (by omega)).os ?_
    refine L1 (os_loadS1 (v := w32 x) (hsrc _ _ (by repeat (first | exact pk_head _ _ | apply pk_tail))) T.ag45 rfl) ?_
    refine L1 (ps_move rfl).os ?_
    refine L1 (ps_to (u := .int .i64 ((i4 % 4 : Nat) : Int)) (congrArg _ (by omega)) (ps_rem_pos rfl rfl (by omega) (by decide))).os ?_
    refine L1 (ps_mul_i64 rfl rfl (by omega) (by omega)).os ?_
    refine L1 (ps_to (u := .int .i64 ((s8 : Nat) : Int)) (congrArg _ (by omega)) (ps_sub_i64 rfl rfl (by omega) (by omega))).os ?_
    refine L1 (ps_to (u := .int .u64 ((s8 : Nat) : Int)) (congrArg _ (wrap_u64_id (by omega) (by omega))) (ps_conv (by kernel_rfl) T.un42 rfl)).os ?_
    refine L1 (ps32_shr x s8 rfl rfl rfl (by omega)).os ?_
    refine L1 (ps32_low _ (by kernel_rfl) T.un5 rfl).os ?_
    refine L1 (ps_ia_arr T.un24 T.sz5 rfl rfl (by omega) (by omega)).os ?_
    refine L1 (os_cb hst <| os_store1 (b := b23) (by repeat (first | exact pk_head _ _ | apply pk_tail)) T.sz5 rfl rfl (by rfl) (by rw [hbl]; omega)) ?_
    refine LW.nil ?_
    repeat (first | refine CW.seq ?_ | refine PW.then_ ?_ | refine PW.then_to rfl ?_ | refine CW.block ?_ | refine CW.skip ?_ | refine CW.ret ?_ | refine PW.then_ret ?_ | refine PW.block_ret ?_ | refine Cut.ret ?_ | refine Rnd.ret ?_ | refine PW.block_normal ?_ | refine CW.exit ?_ | refine PW.then_exit ?_ | refine PW.block_hit ?_ | refine PW.block_miss rfl ?_ | refine Cut.exit ?_ | refine Rnd.exit ?_)
    refine CW.region ?_
    refine L1 (ps_move rfl).os ?_
    refine L1 (ps_add_i64 rfl rfl (by omega) (by omega)).os ?_
    refine L1 (ps_assign rfl).os ?_
    refine LW.nil ?_
    exact Meet.round (32 - (i4 + 1)) (i4 + 1) (by omega) ⟨hlt4, rfl⟩ (by repeat (first | (with_reducible exact Ag.refl _ _) | (with_reducible apply Ag.pu0) | ((with_reducible refine Ag.pu _ ?_ ?_); · exact rfl) | ((with_reducible refine Ag.mix ?_ ?_); · exact rfl) | ((with_reducible refine Ag.pus ?_ ?_); · exact rfl))) ⟨rfl, trivial⟩ (by repeat (first | exact Ent.refl _ | (apply Ent.cons; · repeat (first | exact pk_head _ _ | apply pk_tail)) | apply Ent.skip))
  have hi32 : i4 = 32 := by omega
  subst hi32
  have hol := outM_len h
  have hent : Ent (cb b23 24 (bv ((outM h).take 32 ++ List.replicate (32 - 32) 0)) :: slOwn 45 1 (.slice (some ⟨gh, 0, none⟩) 8 dh) 8 (wv h) :: cb b2 24 (List.replicate 32 (.int .u8 0)) :: B :: F)
      (cb b23 24 (bv (outM h)) :: cb b2 24 (List.replicate 32 (.int .u8 0)) :: B :: F) := by
    rw [List.take_of_length_le (by omega), show List.replicate (32 - 32) (0 : UInt8) = [] from rfl, List.append_nil]
    exact (by repeat (first | exact Ent.refl _ | (apply Ent.cons; · repeat (first | exact pk_head _ _ | apply pk_tail)) | apply Ent.skip))
  refine J.ent hent ?_
  have hbl : (bv (outM h)).length = 32 := by rw [length_bv, hol]
  refine CW.region ?_
  refine L1 (ps_move rfl).os ?_
  refine L1 (ps_f (ps_lss rfl rfl) (by omega)).os ?_
  refine LW.nil ?_
  repeat (first | refine CW.seq ?_ | refine PW.then_ ?_ | refine PW.then_to rfl ?_ | refine CW.block ?_ | refine CW.skip ?_ | refine CW.ret ?_ | refine PW.then_ret ?_ | refine PW.block_ret ?_ | refine Cut.ret ?_ | refine Rnd.ret ?_ | refine PW.block_normal ?_ | refine CW.exit ?_ | refine PW.then_exit ?_ | refine PW.block_hit ?_ | refine PW.block_miss rfl ?_ | refine Cut.exit ?_ | refine Rnd.exit ?_)
  refine CW.cond_false rfl ?_
  repeat (first | refine CW.seq ?_ | refine PW.then_ ?_ | refine PW.then_to rfl ?_ | refine CW.block ?_ | refine CW.skip ?_ | refine CW.ret ?_ | refine PW.then_ret ?_ | refine PW.block_ret ?_ | refine Cut.ret ?_ | refine Rnd.ret ?_ | refine PW.block_normal ?_ | refine CW.exit ?_ | refine PW.then_exit ?_ | refine PW.block_hit ?_ | refine PW.block_miss rfl ?_ | refine Cut.exit ?_ | refine Rnd.exit ?_)
  refine CW.region ?_
  refine L1 (os_loadAll (b := b23) (cs := bv (outM h)) (by repeat (first | exact pk_head _ _ | apply pk_tail)) T.ag24 (by rw [hbl]; exact T.sz24) rfl) ?_
  refine L1 (os_storeAll (b := b2) (vs := bv (outM h)) (by repeat (first | exact pk_head _ _ | apply pk_tail)) (by rw [hbl]; exact T.sz24) rfl rfl (bv_one _) (by rw [hbl]; rfl)) ?_
  refine LW.nil ?_
  repeat (first | refine CW.seq ?_ | refine PW.then_ ?_ | refine PW.then_to rfl ?_ | refine CW.block ?_ | refine CW.skip ?_ | refine CW.ret ?_ | refine PW.then_ret ?_ | refine PW.block_ret ?_ | refine Cut.ret ?_ | refine Rnd.ret ?_ | refine PW.block_normal ?_ | refine CW.exit ?_ | refine PW.then_exit ?_ | refine PW.block_hit ?_ | refine PW.block_miss rfl ?_ | refine Cut.exit ?_ | refine Rnd.exit ?_)
  exact Fin.retCell (b := b2) (cs := bv (outM h)) rfl (by repeat (first | exact pk_head _ _ | apply pk_tail)) T.ag24 (by rw [hbl]; exact T.sz24) rfl [_] ⟨rfl, rfl⟩ (by repeat (first | exact Ent.refl _ | (apply Ent.cons; · repeat (first | exact pk_head _ _ | apply pk_tail)) | apply Ent.skip))
end Go.Proofs.YtcfipblnaifbhaaDoor
