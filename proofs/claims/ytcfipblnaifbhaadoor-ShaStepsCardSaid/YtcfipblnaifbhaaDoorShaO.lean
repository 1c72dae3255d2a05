/- The hash of bytes, and of parts: the contracts. -/
import Derived.Test.YtcfipblnaifbhaaDoorShaB
namespace Go.Proofs.YtcfipblnaifbhaaDoor
set_option linter.unusedVariables false
set_option linter.unusedSimpArgs false
open Go Go.SL

/-! ## parts, taken as one -/
def AllP (Bs : List Asn) : Asn := fun L => sat Bs L
theorem Ent.all (Bs F : List Asn) : Ent (Bs ++ F) (AllP Bs :: F) := Ent.fold (fun _ h => h)
theorem Ent.unall (Bs F : List Asn) : Ent (AllP Bs :: F) (Bs ++ F) := fun L s => by
  obtain ⟨L1, L2, h1, h2, h3⟩ := s
  exact sat_mk h1 h2 h3
theorem Src.all {Bs : List Asn} {B : Asn} (hm : B ∈ Bs) {p : Option Addr} {vs : List Value} (h : ∀ As Cs, List.Perm As (B :: Cs) → Src As p vs) {As Cs : List Asn} (hp : List.Perm As (AllP Bs :: Cs)) : Src As p vs := fun hne => by
  obtain ⟨s, t, rfl⟩ := List.append_of_mem hm
  obtain ⟨a, h1, h2⟩ := h ((s ++ B :: t) ++ Cs) _ ((List.perm_middle.append_right Cs)) hne
  exact ⟨a, h1, fun w0 w hw => h2 w0 w ((Ent.unall _ Cs).heap (hw.perm hp))⟩
theorem ByR.all {Bs : List Asn} {B : Asn} (hm : B ∈ Bs) {v : Value} {bs : List UInt8} (h : ByR B v bs) : ByR (AllP Bs) v bs := by
  obtain ⟨p, cap, e, hc, hs⟩ := h
  exact ⟨p, cap, e, hc, fun As Cs hp => Src.all hm hs hp⟩
theorem Env.all {Bs : List Asn} {B : Asn} (hm : B ∈ Bs) (h : Env B) : Env (AllP Bs) := ⟨fun As Cs hp => Src.all hm h.st hp, fun As Cs hp => Src.all hm h.rd hp⟩

/-! ## the hash of bytes -/
theorem padM_len (bs : List UInt8) : (padM bs).length = 64 * ((padM bs).length / 64) := by
  have h : (padM bs).length = bs.length + 1 + (119 - bs.length % 64) % 64 + 8 := by simp [padM]; omega
  rw [h]; omega
theorem by8_nat (n s : Nat) : IntKind.u8.wrap ((n / 2 ^ s : Nat) : Int) = ((by8 ((n : Int) / 2 ^ s)).toNat : Int) := by
  rw [wrap_u8, by8_toNat, Int.natCast_ediv, Int.natCast_pow]; rfl
theorem out_get (h : List UInt32) (i : Nat) (hi : i < 32) : (outM h).take (i + 1) = (outM h).take i ++ [UInt8.ofNat (h.getD (i / 4) 0 >>> UInt32.ofNat (24 - 8 * (i % 4))).toNat] := by
  rw [List.take_succ_eq_append_getElem (by rw [outM_len]; exact hi)]
  congr 2
  simp [outM]
theorem out_set (o : List UInt8) (i : Nat) (x : UInt8) (ho : o.length = i) (hi : i < 32) : (bv (o ++ List.replicate (32 - i) 0)).set (0 + ((i : Nat) : Int).toNat * 1) (.int .u8 (x.toNat : Int)) = bv (o ++ [x] ++ List.replicate (32 - (i + 1)) 0) := by
  rw [Nat.zero_add, Nat.mul_one, Int.toNat_natCast, show 32 - i = (32 - (i + 1)) + 1 by omega, List.replicate_succ]
  have e : (Value.int .u8 (x.toNat : Int)) = (fun c : UInt8 => Value.int .u8 (c.toNat : Int)) x := rfl
  rw [bv, e, ← List.map_set, bv, List.set_append, if_neg (by omega), ho, Nat.sub_self, List.set_cons_zero, List.append_assoc]
  rfl
theorem z32 (h : List UInt32) : List.replicate 32 (Value.int .u8 0) = bv ((outM h).take 0 ++ List.replicate (32 - 0) 0) := by simp [bv]
set_option maxHeartbeats 2000000 in
theorem sum_spec (B E : Asn) (hE : Env E) (v : Value) (bs : List UInt8) (hb : ByR B v bs) (hl : bs.length ≤ 1000000) :
    FSpec Tryd.prog 14 [v] [B, E] (fun r As => r = .agg (bv (sumM bs)).toArray ∧ As = [B, E]) := by
  have hb0 := hb
  obtain ⟨q0, cap0, rfl, hcap0, -⟩ := hb0
  obtain ⟨K, hK⟩ : ∃ K, (119 - bs.length % 64) % 64 = K := ⟨_, rfl⟩
  have hK64 : K < 64 := by omega
  obtain ⟨n8, hn8⟩ : ∃ n8, bs.length * 8 = n8 := ⟨_, rfl⟩
  have hpad : padM bs = bs ++ [0x80] ++ List.replicate K 0 ++ be 8 ((n8 : Nat) : Int) := by rw [padM, hK, hn8]
  have hpl := padM_len bs
  have hsum : sumM bs = outM (hM (padM bs) ((padM bs).length / 64)) := rfl
  have hp9 : (padM bs).length = bs.length + 1 + K + 8 := by rw [hpad]; simp; omega
  have e8 : (bs.length : Int) * 8 = ((n8 : Nat) : Int) := by rw [← hn8]; push_cast; rfl
  refine FSpec.intro Tryd.func14 rfl 66 Tryd.ntmps14 (Nat.le_of_ble_eq_true rfl) fun w0 F => ?_
  show CW _ _ _ _ _ _ (_ :: _ :: F)
  repeat (first | refine CW.seq ?_ | refine PW.then_ ?_ | refine PW.then_to rfl ?_ | refine CW.block ?_ | refine CW.skip ?_ | refine CW.ret ?_ | refine PW.then_ret ?_ | refine PW.block_ret ?_ | refine Cut.ret ?_ | refine Rnd.ret ?_ | refine PW.block_normal ?_ | refine CW.exit ?_ | refine PW.then_exit ?_ | refine PW.block_hit ?_ | refine PW.block_miss rfl ?_ | refine Cut.exit ?_ | refine Rnd.exit ?_)
  refine CW.region ?_
  refine LE (os_alloc T.ti25) ?_
  rintro _ _ ⟨b2, rfl, rfl⟩
  refine LW.nil ?_
  repeat (first | refine CW.seq ?_ | refine PW.then_ ?_ | refine PW.then_to rfl ?_ | refine CW.block ?_ | refine CW.skip ?_ | refine CW.ret ?_ | refine PW.then_ret ?_ | refine PW.block_ret ?_ | refine Cut.ret ?_ | refine Rnd.ret ?_ | refine PW.block_normal ?_ | refine CW.exit ?_ | refine PW.then_exit ?_ | refine PW.block_hit ?_ | refine PW.block_miss rfl ?_ | refine Cut.exit ?_ | refine Rnd.exit ?_)
  refine CW.region ?_
  refine L1 (ps_move rfl).os ?_
  refine L1 (ps_len_sl T.un22 rfl).os ?_
  refine L1 (ps_to (u := .int .u64 (bs.length : Int)) (congrArg _ (wrap_u64_id (by omega) (by omega))) (ps_conv (by kernel_rfl) T.un41 rfl)).os ?_
  refine L1 (ps_to (u := .int .u64 ((n8 : Nat) : Int)) (congrArg _ e8) (ps_mul_u64 rfl rfl (by omega) (by omega))).os ?_
  refine L1 (ps_assign rfl).os ?_
  refine LW.nil ?_
  repeat (first | refine CW.seq ?_ | refine PW.then_ ?_ | refine PW.then_to rfl ?_ | refine CW.block ?_ | refine CW.skip ?_ | refine CW.ret ?_ | refine PW.then_ret ?_ | refine PW.block_ret ?_ | refine Cut.ret ?_ | refine Rnd.ret ?_ | refine PW.block_normal ?_ | refine CW.exit ?_ | refine PW.then_exit ?_ | refine PW.block_hit ?_ | refine PW.block_miss rfl ?_ | refine Cut.exit ?_ | refine Rnd.exit ?_)
  refine CW.region ?_
  refine L1 (ps_move rfl).os ?_
  refine LE (os_append0 (news := bv bs) T.un22 T.ti5 (by rfl) (by decide) rfl rfl (by simp) (hb.src (by repeat (first | exact pk_head _ _ | apply pk_tail))) (bv_one _) (by unfold maxLen; omega) (by omega)) ?_
  rintro _ _ ⟨q1, d1, rfl, rfl, hq1⟩
  refine LE (os_bslv (vs := bv [128]) T.un22 T.ti5 (by rfl) (by rfl) rfl (bv_one _) (by decide) (by decide)) ?_
  rintro _ _ ⟨b15, rfl, rfl⟩
  refine LE (os_append (xs := bv bs) (news := bv [128]) (by repeat (first | exact pk_head _ _ | apply pk_tail)) T.un22 T.ti5 (by rfl) (by decide) rfl rfl rfl (Src.cb (b := b15) (by repeat (first | exact pk_head _ _ | apply pk_tail)) rfl) (bv_one _) (by unfold maxLen; omega) (by omega)) ?_
  rintro _ _ ⟨q2, d2, rfl, rfl, hq2⟩
  refine L1 (ps_assign rfl).os ?_
  refine LW.nil ?_
  repeat (first | refine CW.seq ?_ | refine PW.then_ ?_ | refine PW.then_to rfl ?_ | refine CW.block ?_ | refine CW.skip ?_ | refine CW.ret ?_ | refine PW.then_ret ?_ | refine PW.block_ret ?_ | refine Cut.ret ?_ | refine Rnd.ret ?_ | refine PW.block_normal ?_ | refine CW.exit ?_ | refine PW.then_exit ?_ | refine PW.block_hit ?_ | refine PW.block_miss rfl ?_ | refine Cut.exit ?_ | refine Rnd.exit ?_)
  refine CW.loopM (α := Nat × Option Addr × Nat) [0, 17, 18, 19, 20, 21, 22, 23] (fun k a => a.1 ≤ K ∧ k = K - a.1) (fun a => [(0, .slice a.2.1 (bs.length + 1 + a.1) a.2.2)])
    (fun a => slOwn 5 1 (.slice a.2.1 (bs.length + 1 + a.1) a.2.2) (bs.length + 1 + a.1) (bv (bs ++ [0x80] ++ List.replicate a.1 0)) :: cb b2 25 (List.replicate 32 (.int .u8 0)) :: B :: E :: F) K (0, q2, d2) ⟨Nat.zero_le _, rfl⟩ ⟨rfl, trivial⟩ (by
      rw [show bs ++ [0x80] ++ List.replicate 0 0 = bs ++ [0x80] by simp, bv_append]; exact (by repeat (first | exact Ent.refl _ | (apply Ent.cons; · repeat (first | exact pk_head _ _ | apply pk_tail)) | apply Ent.skip))) ?_
  rintro k ⟨i, q, d⟩ g ⟨hi, hk⟩
  dsimp only at hi hk ⊢
  repeat (first | refine CW.seq ?_ | refine PW.then_ ?_ | refine PW.then_to rfl ?_ | refine CW.block ?_ | refine CW.skip ?_ | refine CW.ret ?_ | refine PW.then_ret ?_ | refine PW.block_ret ?_ | refine Cut.ret ?_ | refine Rnd.ret ?_ | refine PW.block_normal ?_ | refine CW.exit ?_ | refine PW.then_exit ?_ | refine PW.block_hit ?_ | refine PW.block_miss rfl ?_ | refine Cut.exit ?_ | refine Rnd.exit ?_)
  by_cases hlt : i < K
  · have hne : (((bs.length + 1 + i) % 64 : Nat) : Int) ≠ 56 := by omega
    have hrep : bv (bs ++ [0x80] ++ List.replicate (i + 1) 0) = bv (bs ++ [0x80] ++ List.replicate i 0) ++ bv [0] := by
      rw [← bv_append, List.append_assoc _ (List.replicate i 0), ← List.replicate_succ']
    have hll : (bs ++ [0x80] ++ List.replicate i (0 : UInt8)).length = bs.length + 1 + i := by simp; omega
    refine CW.region ?_
    refine L1 (ps_move rfl).os ?_
    refine L1 (ps_len_sl T.un22 rfl).os ?_
    refine L1 (ps_to (u := .int .i64 (((bs.length + 1 + i) % 64 : Nat) : Int)) (congrArg _ (by omega)) (ps_rem_pos rfl rfl (by omega) (by decide))).os ?_
    refine L1 (ps_t (ps_neq rfl rfl) (hne)).os ?_
    refine LW.nil ?_
    repeat (first | refine CW.seq ?_ | refine PW.then_ ?_ | refine PW.then_to rfl ?_ | refine CW.block ?_ | refine CW.skip ?_ | refine CW.ret ?_ | refine PW.then_ret ?_ | refine PW.block_ret ?_ | refine Cut.ret ?_ | refine Rnd.ret ?_ | refine PW.block_normal ?_ | refine CW.exit ?_ | refine PW.then_exit ?_ | refine PW.block_hit ?_ | refine PW.block_miss rfl ?_ | refine Cut.exit ?_ | refine Rnd.exit ?_)
    refine CW.cond_true rfl ?_
    repeat (first | refine CW.seq ?_ | refine PW.then_ ?_ | refine PW.then_to rfl ?_ | refine CW.block ?_ | refine CW.skip ?_ | refine CW.ret ?_ | refine PW.then_ret ?_ | refine PW.block_ret ?_ | refine Cut.ret ?_ | refine Rnd.ret ?_ | refine PW.block_normal ?_ | refine CW.exit ?_ | refine PW.then_exit ?_ | refine PW.block_hit ?_ | refine PW.block_miss rfl ?_ | refine Cut.exit ?_ | refine Rnd.exit ?_)
    refine CW.region ?_
    refine L1 (ps_move rfl).os ?_
    refine LE (os_bslv (vs := bv [0]) T.un22 T.ti5 (by rfl) (by rfl) rfl (bv_one _) (by decide) (by decide)) ?_
    rintro _ _ ⟨b22, rfl, rfl⟩
    refine LE (os_append (xs := bv (bs ++ [0x80] ++ List.replicate i 0)) (news := bv [0]) (by repeat (first | exact pk_head _ _ | apply pk_tail)) T.un22 T.ti5 (by rfl) (by decide) rfl rfl rfl (Src.cb (b := b22) (by repeat (first | exact pk_head _ _ | apply pk_tail)) rfl) (bv_one _) (by unfold maxLen; omega) (by omega)) ?_
    rintro _ _ ⟨q3, d3, rfl, rfl, hq3⟩
    refine L1 (ps_assign rfl).os ?_
    refine LW.nil ?_
    repeat (first | refine CW.seq ?_ | refine PW.then_ ?_ | refine PW.then_to rfl ?_ | refine CW.block ?_ | refine CW.skip ?_ | refine CW.ret ?_ | refine PW.then_ret ?_ | refine PW.block_ret ?_ | refine Cut.ret ?_ | refine Rnd.ret ?_ | refine PW.block_normal ?_ | refine CW.exit ?_ | refine PW.then_exit ?_ | refine PW.block_hit ?_ | refine PW.block_miss rfl ?_ | refine Cut.exit ?_ | refine Rnd.exit ?_)
    exact Meet.round (K - (i + 1)) (i + 1, q3, d3) (by omega) ⟨hlt, rfl⟩ (by repeat (first | (with_reducible exact Ag.refl _ _) | (with_reducible apply Ag.pu0) | ((with_reducible refine Ag.pu _ ?_ ?_); · exact rfl) | ((with_reducible refine Ag.mix ?_ ?_); · exact rfl) | ((with_reducible refine Ag.pus ?_ ?_); · exact rfl))) ⟨rfl, trivial⟩ (by dsimp only; rw [hrep, ← Nat.add_assoc]; exact (by repeat (first | exact Ent.refl _ | (apply Ent.cons; · repeat (first | exact pk_head _ _ | apply pk_tail)) | apply Ent.skip)))
  have hiK : i = K := by omega
  subst hiK
  have heq : (((bs.length + 1 + i) % 64 : Nat) : Int) = 56 := by omega
  have hpre : (bs ++ [0x80] ++ List.replicate i (0 : UInt8)).length = bs.length + 1 + i := by simp; omega
  generalize hpr : bs ++ [0x80] ++ List.replicate i 0 = pre at hpad hpre ⊢
  generalize hm : bs.length + 1 + i = m at heq hpre hp9 ⊢
  refine CW.region ?_
  refine L1 (ps_move rfl).os ?_
  refine L1 (ps_len_sl T.un22 rfl).os ?_
  refine L1 (ps_to (u := .int .i64 ((m % 64 : Nat) : Int)) (congrArg _ (by omega)) (ps_rem_pos rfl rfl (by omega) (by decide))).os ?_
  refine L1 (ps_f (ps_neq rfl rfl) ((fun h => h heq))).os ?_
  refine LW.nil ?_
  repeat (first | refine CW.seq ?_ | refine PW.then_ ?_ | refine PW.then_to rfl ?_ | refine CW.block ?_ | refine CW.skip ?_ | refine CW.ret ?_ | refine PW.then_ret ?_ | refine PW.block_ret ?_ | refine Cut.ret ?_ | refine Rnd.ret ?_ | refine PW.block_normal ?_ | refine CW.exit ?_ | refine PW.then_exit ?_ | refine PW.block_hit ?_ | refine PW.block_miss rfl ?_ | refine Cut.exit ?_ | refine Rnd.exit ?_)
  refine CW.cond_false rfl ?_
  repeat (first | refine CW.seq ?_ | refine PW.then_ ?_ | refine PW.then_to rfl ?_ | refine CW.block ?_ | refine CW.skip ?_ | refine CW.ret ?_ | refine PW.then_ret ?_ | refine PW.block_ret ?_ | refine Cut.ret ?_ | refine Rnd.ret ?_ | refine PW.block_normal ?_ | refine CW.exit ?_ | refine PW.then_exit ?_ | refine PW.block_hit ?_ | refine PW.block_miss rfl ?_ | refine Cut.exit ?_ | refine Rnd.exit ?_)
  refine CW.region ?_
  refine L1 (ps_assign rfl).os ?_
  refine LW.nil ?_
  repeat (first | refine CW.seq ?_ | refine PW.then_ ?_ | refine PW.then_to rfl ?_ | refine CW.block ?_ | refine CW.skip ?_ | refine CW.ret ?_ | refine PW.then_ret ?_ | refine PW.block_ret ?_ | refine Cut.ret ?_ | refine Rnd.ret ?_ | refine PW.block_normal ?_ | refine CW.exit ?_ | refine PW.then_exit ?_ | refine PW.block_hit ?_ | refine PW.block_miss rfl ?_ | refine Cut.exit ?_ | refine Rnd.exit ?_)
  refine CW.loopM (α := Nat × Option Addr × Nat) [0, 4, 24, 25, 26, 27, 28, 29, 30, 31, 32, 33, 34, 35] (fun k a => a.1 ≤ 8 ∧ k = 8 - a.1) (fun a => [(4, .int .i64 (7 - (a.1 : Int))), (0, .slice a.2.1 (m + a.1) a.2.2)])
    (fun a => slOwn 5 1 (.slice a.2.1 (m + a.1) a.2.2) (m + a.1) (bv (pre ++ (be 8 ((n8 : Nat) : Int)).take a.1)) :: cb b2 25 (List.replicate 32 (.int .u8 0)) :: B :: E :: F) 8 (0, q, d) ⟨Nat.zero_le _, rfl⟩ ⟨rfl, rfl, trivial⟩ (by
      rw [List.take_zero, List.append_nil]; exact (by repeat (first | exact Ent.refl _ | (apply Ent.cons; · repeat (first | exact pk_head _ _ | apply pk_tail)) | apply Ent.skip))) ?_
  rintro k ⟨j, q4, d4⟩ g2 ⟨hj, hk2⟩
  dsimp only at hj hk2 ⊢
  repeat (first | refine CW.seq ?_ | refine PW.then_ ?_ | refine PW.then_to rfl ?_ | refine CW.block ?_ | refine CW.skip ?_ | refine CW.ret ?_ | refine PW.then_ret ?_ | refine PW.block_ret ?_ | refine Cut.ret ?_ | refine Rnd.ret ?_ | refine PW.block_normal ?_ | refine CW.exit ?_ | refine PW.then_exit ?_ | refine PW.block_hit ?_ | refine PW.block_miss rfl ?_ | refine Cut.exit ?_ | refine Rnd.exit ?_)
  by_cases hjt : j < 8
  · have hbt := be_take_succ 8 ((n8 : Nat) : Int) j hjt
    have hbn := by8_nat n8 (8 * (8 - 1 - j))
    have hap : bv (pre ++ (be 8 ((n8 : Nat) : Int)).take (j + 1)) = bv (pre ++ (be 8 ((n8 : Nat) : Int)).take j) ++ bv [by8 (((n8 : Nat) : Int) / 2 ^ (8 * (8 - 1 - j)))] := by
      rw [hbt, ← List.append_assoc, bv_append]
    have hll : (pre ++ (be 8 ((n8 : Nat) : Int)).take j).length = m + j := by rw [List.length_append, hpre, List.length_take, length_be]; omega
    generalize by8 (((n8 : Nat) : Int) / 2 ^ (8 * (8 - 1 - j))) = c at hbn hap
    obtain ⟨s8, hs8⟩ : ∃ s8, 8 * (8 - 1 - j) = s8 := ⟨_, rfl⟩
    rw [hs8] at hbn
    refine CW.region ?_
    refine L1 (ps_move rfl).os ?_
    refine L1 (ps_t (ps_geq rfl rfl) (by omega)).os ?_
    refine LW.nil ?_
    repeat (first | refine CW.seq ?_ | refine PW.then_ ?_ | refine PW.then_to rfl ?_ | refine CW.block ?_ | refine CW.skip ?_ | refine CW.ret ?_ | refine PW.then_ret ?_ | refine PW.block_ret ?_ | refine Cut.ret ?_ | refine Rnd.ret ?_ | refine PW.block_normal ?_ | refine CW.exit ?_ | refine PW.then_exit ?_ | refine PW.block_hit ?_ | refine PW.block_miss rfl ?_ | refine Cut.exit ?_ | refine Rnd.exit ?_)
    refine CW.cond_true rfl ?_
    repeat (first | refine CW.seq ?_ | refine PW.then_ ?_ | refine PW.then_to rfl ?_ | refine CW.block ?_ | refine CW.skip ?_ | refine CW.ret ?_ | refine PW.then_ret ?_ | refine PW.block_ret ?_ | refine Cut.ret ?_ | refine Rnd.ret ?_ | refine PW.block_normal ?_ | refine CW.exit ?_ | refine PW.then_exit ?_ | refine PW.block_hit ?_ | refine PW.block_miss rfl ?_ | refine Cut.exit ?_ | refine Rnd.exit ?_)
    refine CW.region ?_
    refine L1 (ps_move rfl).os ?_
    refine L1 (ps_move rfl).os ?_
    refine L1 (ps_move rfl).os ?_
    refine L1 (ps_to (u := .int .i64 ((s8 : Nat) : Int)) (congrArg (Value.int .i64) (show (8 : Int) * (7 - (j : Int)) = ((s8 : Nat) : Int) by omega)) (ps_mul_i64 rfl rfl (by omega) (by omega))).os ?_
    refine L1 (ps_shrN n8 s8 rfl rfl rfl (by show s8 ≤ 64; omega)).os ?_
    refine L1 (ps_to (u := .int .u8 (c.toNat : Int)) (congrArg _ hbn) (ps_conv (by kernel_rfl) T.un5 rfl)).os ?_
    refine LE (os_bslv (vs := bv [c]) T.un22 T.ti5 (by rfl) (by rfl) rfl (bv_one _) (by decide) (by decide)) ?_
    rintro _ _ ⟨b34, rfl, rfl⟩
    refine LE (os_append (xs := bv (pre ++ (be 8 ((n8 : Nat) : Int)).take j)) (news := bv [c]) (by repeat (first | exact pk_head _ _ | apply pk_tail)) T.un22 T.ti5 (by rfl) (by decide) rfl rfl rfl (Src.cb (b := b34) (by repeat (first | exact pk_head _ _ | apply pk_tail)) rfl) (bv_one _) (by unfold maxLen; omega) (by omega)) ?_
    rintro _ _ ⟨q5, d5, rfl, rfl, hq5⟩
    refine L1 (ps_assign rfl).os ?_
    refine LW.nil ?_
    repeat (first | refine CW.seq ?_ | refine PW.then_ ?_ | refine PW.then_to rfl ?_ | refine CW.block ?_ | refine CW.skip ?_ | refine CW.ret ?_ | refine PW.then_ret ?_ | refine PW.block_ret ?_ | refine Cut.ret ?_ | refine Rnd.ret ?_ | refine PW.block_normal ?_ | refine CW.exit ?_ | refine PW.then_exit ?_ | refine PW.block_hit ?_ | refine PW.block_miss rfl ?_ | refine Cut.exit ?_ | refine Rnd.exit ?_)
    refine CW.region ?_
    refine L1 (ps_move rfl).os ?_
    refine L1 (ps_to (u := .int .i64 (7 - ((j + 1 : Nat) : Int))) (congrArg (Value.int .i64) (show (7 : Int) - (j : Int) - 1 = 7 - ((j + 1 : Nat) : Int) by omega)) (ps_sub_i64 rfl rfl (by omega) (by omega))).os ?_
    refine L1 (ps_assign rfl).os ?_
    refine LW.nil ?_
    exact Meet.round (8 - (j + 1)) (j + 1, q5, d5) (by omega) ⟨hjt, rfl⟩ (by repeat (first | (with_reducible exact Ag.refl _ _) | (with_reducible apply Ag.pu0) | ((with_reducible refine Ag.pu _ ?_ ?_); · exact rfl) | ((with_reducible refine Ag.mix ?_ ?_); · exact rfl) | ((with_reducible refine Ag.pus ?_ ?_); · exact rfl))) ⟨rfl, rfl, trivial⟩ (by dsimp only; rw [hap, ← Nat.add_assoc]; exact (by repeat (first | exact Ent.refl _ | (apply Ent.cons; · repeat (first | exact pk_head _ _ | apply pk_tail)) | apply Ent.skip)))
  have hj8 : j = 8 := by omega
  subst hj8
  rw [List.take_of_length_le (by rw [length_be]; exact Nat.le_refl _), ← hpad]
  refine CW.region ?_
  refine L1 (ps_move rfl).os ?_
  refine L1 (ps_f (ps_geq rfl rfl) (by omega)).os ?_
  refine LW.nil ?_
  repeat (first | refine CW.seq ?_ | refine PW.then_ ?_ | refine PW.then_to rfl ?_ | refine CW.block ?_ | refine CW.skip ?_ | refine CW.ret ?_ | refine PW.then_ret ?_ | refine PW.block_ret ?_ | refine Cut.ret ?_ | refine Rnd.ret ?_ | refine PW.block_normal ?_ | refine CW.exit ?_ | refine PW.then_exit ?_ | refine PW.block_hit ?_ | refine PW.block_miss rfl ?_ | refine Cut.exit ?_ | refine Rnd.exit ?_)
  refine CW.cond_false rfl ?_
  repeat (first | refine CW.seq ?_ | refine PW.then_ ?_ | refine PW.then_to rfl ?_ | refine CW.block ?_ | refine CW.skip ?_ | refine CW.ret ?_ | refine PW.then_ret ?_ | refine PW.block_ret ?_ | refine Cut.ret ?_ | refine Rnd.ret ?_ | refine PW.block_normal ?_ | refine CW.exit ?_ | refine PW.then_exit ?_ | refine PW.block_hit ?_ | refine PW.block_miss rfl ?_ | refine Cut.exit ?_ | refine Rnd.exit ?_)
  generalize padM bs = pd at hpl hsum hp9 ⊢
  generalize hM8 : pd.length / 64 = M at hpl hsum
  have hm8 : m + 8 = pd.length := by omega
  have hpm : pd.length ≤ 1000100 := by omega
  refine slOwn_info (m := m + 8) (xs := bv pd) (by repeat (first | exact pk_head _ _ | apply pk_tail)) fun o1 o2 o3 => ?_
  have hbp := ByR.own (e := 5) (m := m + 8) (d := d4) (q := q4) (bs := pd) hm8.symm o1 o3
  obtain ⟨vb, rfl⟩ := o3 (by omega)
  generalize slOwn 5 1 (.slice (some ⟨vb, 0, none⟩) (m + 8) d4) (m + 8) (bv pd) = Y at hbp ⊢
  rw [hm8] at *
  clear hpad hpre hpr heq hK hn8 e8
  refine CW.region ?_
  refine L1 (os_loadS (vs := wv startL) (hE.st _ _ (by repeat (first | exact pk_head _ _ | apply pk_tail))) (by simp [wv, startL]) T.ag50 (by exact T.sz50) rfl) ?_
  refine LE (os_alloc T.ti50) ?_
  rintro _ _ ⟨b5, rfl, rfl⟩
  refine L1 (os_storeAll (b := b5) (vs := wv startL) (by repeat (first | exact pk_head _ _ | apply pk_tail)) (by exact T.sz50) rfl rfl (wv_one _) (by rfl)) ?_
  refine LW.nil ?_
  repeat (first | refine CW.seq ?_ | refine PW.then_ ?_ | refine PW.then_to rfl ?_ | refine CW.block ?_ | refine CW.skip ?_ | refine CW.ret ?_ | refine PW.then_ret ?_ | refine PW.block_ret ?_ | refine Cut.ret ?_ | refine Rnd.ret ?_ | refine PW.block_normal ?_ | refine CW.exit ?_ | refine PW.then_exit ?_ | refine PW.block_hit ?_ | refine PW.block_miss rfl ?_ | refine Cut.exit ?_ | refine Rnd.exit ?_)
  refine CW.region ?_
  refine L1 (ps_assign rfl).os ?_
  refine LW.nil ?_
  repeat (first | refine CW.seq ?_ | refine PW.then_ ?_ | refine PW.then_to rfl ?_ | refine CW.block ?_ | refine CW.skip ?_ | refine CW.ret ?_ | refine PW.then_ret ?_ | refine PW.block_ret ?_ | refine Cut.ret ?_ | refine Rnd.ret ?_ | refine PW.block_normal ?_ | refine CW.exit ?_ | refine PW.then_exit ?_ | refine PW.block_hit ?_ | refine PW.block_miss rfl ?_ | refine Cut.exit ?_ | refine Rnd.exit ?_)
  refine CW.loopM (α := Nat) [6, 37, 38, 39, 40, 41, 42, 43, 44, 45, 46, 47, 48] (fun k i => i ≤ M ∧ k = M - i) (fun i => [(6, .int .i64 ((64 * i : Nat) : Int))])
    (fun i => cb b5 50 (wv (hM pd i)) :: Y :: cb b2 25 (List.replicate 32 (.int .u8 0)) :: B :: E :: F) M 0 ⟨Nat.zero_le _, rfl⟩ ⟨rfl, trivial⟩ (by repeat (first | exact Ent.refl _ | (apply Ent.cons; · repeat (first | exact pk_head _ _ | apply pk_tail)) | apply Ent.skip)) ?_
  rintro k i' g3 ⟨hi3, hk3⟩
  repeat (first | refine CW.seq ?_ | refine PW.then_ ?_ | refine PW.then_to rfl ?_ | refine CW.block ?_ | refine CW.skip ?_ | refine CW.ret ?_ | refine PW.then_ret ?_ | refine PW.block_ret ?_ | refine Cut.ret ?_ | refine Rnd.ret ?_ | refine PW.block_normal ?_ | refine CW.exit ?_ | refine PW.then_exit ?_ | refine PW.block_hit ?_ | refine PW.block_miss rfl ?_ | refine Cut.exit ?_ | refine Rnd.exit ?_)
  by_cases hlt3 : i' < M
  · have hhl := hM_len pd i'
    have hhs : hM pd (i' + 1) = blockM (hM pd i') ((pd.drop (64 * i')).take 64) := rfl
    have hcut := ByR.cut hbp (64 * i') (64 * i' + 64) (by omega) (by omega)
    rw [show 64 * i' + 64 - 64 * i' = 64 by omega] at hcut
    have hcl : ((pd.drop (64 * i')).take 64).length = 64 := by rw [List.length_take, List.length_drop]; omega
    have hsv : Value.slice (some ⟨vb, cutOff 0 ((64 * i' : Nat) : Int).toNat d4 1 ((64 * i' : Nat) : Int).toNat, none⟩) ((((64 * i' : Nat) : Int) + 64).toNat - ((64 * i' : Nat) : Int).toNat) (d4 - ((64 * i' : Nat) : Int).toNat) = .slice (some ⟨vb, cutOff 0 (64 * i') d4 1 (64 * i'), none⟩) 64 (d4 - 64 * i') := by
      rw [Int.toNat_natCast, show (((64 * i' : Nat) : Int) + 64).toNat - 64 * i' = 64 by omega]
    generalize hM pd i' = h at hhl hhs ⊢
    refine CW.region ?_
    refine L1 (ps_move rfl).os ?_
    refine L1 (ps_move rfl).os ?_
    refine L1 (ps_len_sl T.un22 rfl).os ?_
    refine L1 (ps_t (ps_lss rfl rfl) (by omega)).os ?_
    refine LW.nil ?_
    repeat (first | refine CW.seq ?_ | refine PW.then_ ?_ | refine PW.then_to rfl ?_ | refine CW.block ?_ | refine CW.skip ?_ | refine CW.ret ?_ | refine PW.then_ret ?_ | refine PW.block_ret ?_ | refine Cut.ret ?_ | refine Rnd.ret ?_ | refine PW.block_normal ?_ | refine CW.exit ?_ | refine PW.then_exit ?_ | refine PW.block_hit ?_ | refine PW.block_miss rfl ?_ | refine Cut.exit ?_ | refine Rnd.exit ?_)
    refine CW.cond_true rfl ?_
    repeat (first | refine CW.seq ?_ | refine PW.then_ ?_ | refine PW.then_to rfl ?_ | refine CW.block ?_ | refine CW.skip ?_ | refine CW.ret ?_ | refine PW.then_ret ?_ | refine PW.block_ret ?_ | refine Cut.ret ?_ | refine Rnd.ret ?_ | refine PW.block_normal ?_ | refine CW.exit ?_ | refine PW.then_exit ?_ | refine PW.block_hit ?_ | refine PW.block_miss rfl ?_ | refine Cut.exit ?_ | refine Rnd.exit ?_)
    refine CW.region ?_
    refine L1 (ps_move rfl).os ?_
    refine L1 (ps_move rfl).os ?_
    refine L1 (ps_move rfl).os ?_
    refine L1 (ps_add_i64 rfl rfl (by omega) (by omega)).os ?_
    refine L1 (ps_to (u := .slice (some ⟨vb, cutOff 0 (64 * i') d4 1 (64 * i'), none⟩) 64 (d4 - 64 * i')) hsv (ps_sl_lh T.un22 T.sz5 rfl rfl rfl (by omega) (by omega) (by omega))).os ?_
    refine LE (os_call (block_spec b5 h hhl Y E hE _ _ hcut hcl) Tryd.func17 (by decide +kernel) rfl rfl (pkc (by repeat (first | exact pk_head _ _ | apply pk_tail)) (pkc (by repeat (first | exact pk_head _ _ | apply pk_tail)) (pkc (by repeat (first | exact pk_head _ _ | apply pk_tail)) (pkn _))))) ?_
    rintro _ _ ⟨_, rfl, rfl⟩
    refine LW.nil ?_
    repeat (first | refine CW.seq ?_ | refine PW.then_ ?_ | refine PW.then_to rfl ?_ | refine CW.block ?_ | refine CW.skip ?_ | refine CW.ret ?_ | refine PW.then_ret ?_ | refine PW.block_ret ?_ | refine Cut.ret ?_ | refine Rnd.ret ?_ | refine PW.block_normal ?_ | refine CW.exit ?_ | refine PW.then_exit ?_ | refine PW.block_hit ?_ | refine PW.block_miss rfl ?_ | refine Cut.exit ?_ | refine Rnd.exit ?_)
    refine CW.region ?_
    refine L1 (ps_move rfl).os ?_
    refine L1 (ps_to (u := .int .i64 ((64 * (i' + 1) : Nat) : Int)) (congrArg _ (by omega)) (ps_add_i64 rfl rfl (by omega) (by omega))).os ?_
    refine L1 (ps_assign rfl).os ?_
    refine LW.nil ?_
    exact Meet.round (M - (i' + 1)) (i' + 1) (by omega) ⟨hlt3, rfl⟩ (by repeat (first | (with_reducible exact Ag.refl _ _) | (with_reducible apply Ag.pu0) | ((with_reducible refine Ag.pu _ ?_ ?_); · exact rfl) | ((with_reducible refine Ag.mix ?_ ?_); · exact rfl) | ((with_reducible refine Ag.pus ?_ ?_); · exact rfl))) ⟨rfl, trivial⟩ (by rw [hhs]; exact (by repeat (first | exact Ent.refl _ | (apply Ent.cons; · repeat (first | exact pk_head _ _ | apply pk_tail)) | apply Ent.skip)))
  have hiM : i' = M := by omega
  subst hiM
  have hhl := hM_len pd i'
  rw [hsum]
  generalize hM pd i' = h at hhl ⊢
  refine CW.region ?_
  refine L1 (ps_move rfl).os ?_
  refine L1 (ps_move rfl).os ?_
  refine L1 (ps_len_sl T.un22 rfl).os ?_
  refine L1 (ps_f (ps_lss rfl rfl) (by omega)).os ?_
  refine LW.nil ?_
  repeat (first | refine CW.seq ?_ | refine PW.then_ ?_ | refine PW.then_to rfl ?_ | refine CW.block ?_ | refine CW.skip ?_ | refine CW.ret ?_ | refine PW.then_ret ?_ | refine PW.block_ret ?_ | refine Cut.ret ?_ | refine Rnd.ret ?_ | refine PW.block_normal ?_ | refine CW.exit ?_ | refine PW.then_exit ?_ | refine PW.block_hit ?_ | refine PW.block_miss rfl ?_ | refine Cut.exit ?_ | refine Rnd.exit ?_)
  refine CW.cond_false rfl ?_
  repeat (first | refine CW.seq ?_ | refine PW.then_ ?_ | refine PW.then_to rfl ?_ | refine CW.block ?_ | refine CW.skip ?_ | refine CW.ret ?_ | refine PW.then_ret ?_ | refine PW.block_ret ?_ | refine Cut.ret ?_ | refine Rnd.ret ?_ | refine PW.block_normal ?_ | refine CW.exit ?_ | refine PW.then_exit ?_ | refine PW.block_hit ?_ | refine PW.block_miss rfl ?_ | refine Cut.exit ?_ | refine Rnd.exit ?_)
  refine CW.region ?_
  refine LE (os_alloc (z32 h ▸ T.ti25)) ?_
  rintro _ _ ⟨b7, rfl, rfl⟩
  refine LW.nil ?_
  repeat (first | refine CW.seq ?_ | refine PW.then_ ?_ | refine PW.then_to rfl ?_ | refine CW.block ?_ | refine CW.skip ?_ | refine CW.ret ?_ | refine PW.then_ret ?_ | refine PW.block_ret ?_ | refine Cut.ret ?_ | refine Rnd.ret ?_ | refine PW.block_normal ?_ | refine CW.exit ?_ | refine PW.then_exit ?_ | refine PW.block_hit ?_ | refine PW.block_miss rfl ?_ | refine Cut.exit ?_ | refine Rnd.exit ?_)
  refine CW.region ?_
  refine L1 (ps_move rfl).os ?_
  refine LW.nil ?_
  repeat (first | refine CW.seq ?_ | refine PW.then_ ?_ | refine PW.then_to rfl ?_ | refine CW.block ?_ | refine CW.skip ?_ | refine CW.ret ?_ | refine PW.then_ret ?_ | refine PW.block_ret ?_ | refine Cut.ret ?_ | refine Rnd.ret ?_ | refine PW.block_normal ?_ | refine CW.exit ?_ | refine PW.then_exit ?_ | refine PW.block_hit ?_ | refine PW.block_miss rfl ?_ | refine Cut.exit ?_ | refine Rnd.exit ?_)
  refine CW.loopM (α := Nat) [8, 49, 50, 51, 52, 53, 54, 55, 56, 57, 58, 59, 60, 61, 62, 63, 64] (fun k i => i ≤ 32 ∧ k = 32 - i) (fun i => [(49, .int .i64 i)])
    (fun i => cb b7 25 (bv ((outM h).take i ++ List.replicate (32 - i) 0)) :: cb b5 50 (wv h) :: cb b2 25 (List.replicate 32 (.int .u8 0)) :: B :: E :: F) 32 0 ⟨Nat.zero_le _, rfl⟩ ⟨rfl, trivial⟩ (by repeat (first | exact Ent.refl _ | (apply Ent.cons; · repeat (first | exact pk_head _ _ | apply pk_tail)) | apply Ent.skip)) ?_
  rintro k i4 g4 ⟨hi4, hk4⟩
  repeat (first | refine CW.seq ?_ | refine PW.then_ ?_ | refine PW.then_to rfl ?_ | refine CW.block ?_ | refine CW.skip ?_ | refine CW.ret ?_ | refine PW.then_ret ?_ | refine PW.block_ret ?_ | refine Cut.ret ?_ | refine Rnd.ret ?_ | refine PW.block_normal ?_ | refine CW.exit ?_ | refine PW.then_exit ?_ | refine PW.block_hit ?_ | refine PW.block_miss rfl ?_ | refine Cut.exit ?_ | refine Rnd.exit ?_)
  by_cases hlt4 : i4 < 32
  · have hld := idx32 (l := h) (i := i4 / 4) (by omega)
    have hog := out_get h i4 hlt4
    have hol : ((outM h).take i4).length = i4 := by rw [List.length_take, outM_len]; omega
    obtain ⟨s8, hs8⟩ : ∃ s8, 24 - 8 * (i4 % 4) = s8 := ⟨_, rfl⟩
    rw [hs8] at hog
    generalize h.getD (i4 / 4) 0 = x at hld hog
    have hst := out_set ((outM h).take i4) i4 (UInt8.ofNat (x >>> UInt32.ofNat s8).toNat) hol hlt4
    rw [← hog] at hst
    have hbl : (bv ((outM h).take i4 ++ List.replicate (32 - i4) 0)).length = 32 := by rw [length_bv, List.length_append, hol, List.length_replicate]; omega
    refine CW.region ?_
    refine L1 (ps_t (ps_lss rfl rfl) (by omega)).os ?_
    refine LW.nil ?_
    repeat (first | refine CW.seq ?_ | refine PW.then_ ?_ | refine PW.then_to rfl ?_ | refine CW.block ?_ | refine CW.skip ?_ | refine CW.ret ?_ | refine PW.then_ret ?_ | refine PW.block_ret ?_ | refine Cut.ret ?_ | refine Rnd.ret ?_ | refine PW.block_normal ?_ | refine CW.exit ?_ | refine PW.then_exit ?_ | refine PW.block_hit ?_ | refine PW.block_miss rfl ?_ | refine Cut.exit ?_ | refine Rnd.exit ?_)
    refine CW.cond_true rfl ?_
    repeat (first | refine CW.seq ?_ | refine PW.then_ ?_ | refine PW.then_to rfl ?_ | refine CW.block ?_ | refine CW.skip ?_ | refine CW.ret ?_ | refine PW.then_ret ?_ | refine PW.block_ret ?_ | refine Cut.ret ?_ | refine Rnd.ret ?_ | refine PW.block_normal ?_ | refine CW.exit ?_ | refine PW.then_exit ?_ | refine PW.block_hit ?_ | refine PW.block_miss rfl ?_ | refine Cut.exit ?_ | refine Rnd.exit ?_)
    refine CW.region ?_
    refine L1 (ps_move rfl).os ?_
    refine L1 (ps_assign rfl).os ?_
    refine LW.nil ?_
    repeat (first | refine CW.seq ?_ | refine PW.then_ ?_ | refine PW.then_to rfl ?_ | refine CW.block ?_ | refine CW.skip ?_ | refine CW.ret ?_ | refine PW.then_ret ?_ | refine PW.block_ret ?_ | refine Cut.ret ?_ | refine Rnd.ret ?_ | refine PW.block_normal ?_ | refine CW.exit ?_ | refine PW.then_exit ?_ | refine PW.block_hit ?_ | refine PW.block_miss rfl ?_ | refine Cut.exit ?_ | refine Rnd.exit ?_)
    refine CW.region ?_
    refine L1 (ps_move rfl).os ?_
    refine L1 (ps_move rfl).os ?_
    refine L1 (ps_to (u := .int .i64 ((i4 / 4 : Nat) : Int)) (congrArg _ (by rw [Int.tdiv_eq_ediv_of_nonneg (by omega), wrap_i64_id (by omega) (by omega)]; omega)) (ps_quo rfl rfl (by decide))).os ?_
    refine L1 (ps_ia_arr T.un50 T.sz45 rfl rfl (by omega) (by omega)).os ?_
    refine L1 (os_load1 (b := b5) (v := w32 x) (by repeat (first | exact pk_head _ _ | apply pk_tail)) T.ag45 rfl hld) ?_
    refine L1 (ps_move rfl).os ?_
    refine L1 (ps_to (u := .int .i64 ((i4 % 4 : Nat) : Int)) (congrArg _ (by omega)) (ps_rem_pos rfl rfl (by omega) (by decide))).os ?_
    refine L1 (ps_mul_i64 rfl rfl (by omega) (by omega)).os ?_
    refine L1 (ps_to (u := .int .i64 ((s8 : Nat) : Int)) (congrArg _ (by omega)) (ps_sub_i64 rfl rfl (by omega) (by omega))).os ?_
    refine L1 (ps32_shr x s8 rfl rfl rfl (by omega)).os ?_
    refine L1 (ps32_low _ (by kernel_rfl) T.un5 rfl).os ?_
    refine L1 (ps_ia_arr T.un25 T.sz5 rfl rfl (by omega) (by omega)).os ?_
    refine L1 (os_cb hst <| os_store1 (b := b7) (by repeat (first | exact pk_head _ _ | apply pk_tail)) T.sz5 rfl rfl (by rfl) (by rw [hbl]; omega)) ?_
    refine LW.nil ?_
    repeat (first | refine CW.seq ?_ | refine PW.then_ ?_ | refine PW.then_to rfl ?_ | refine CW.block ?_ | refine CW.skip ?_ | refine CW.ret ?_ | refine PW.then_ret ?_ | refine PW.block_ret ?_ | refine Cut.ret ?_ | refine Rnd.ret ?_ | refine PW.block_normal ?_ | refine CW.exit ?_ | refine PW.then_exit ?_ | refine PW.block_hit ?_ | refine PW.block_miss rfl ?_ | refine Cut.exit ?_ | refine Rnd.exit ?_)
    refine CW.region ?_
    refine L1 (ps_add_i64 rfl rfl (by omega) (by omega)).os ?_
    refine L1 (ps_move rfl).os ?_
    refine LW.nil ?_
    exact Meet.round (32 - (i4 + 1)) (i4 + 1) (by omega) ⟨hlt4, rfl⟩ (by repeat (first | (with_reducible exact Ag.refl _ _) | (with_reducible apply Ag.pu0) | ((with_reducible refine Ag.pu _ ?_ ?_); · exact rfl) | ((with_reducible refine Ag.mix ?_ ?_); · exact rfl) | ((with_reducible refine Ag.pus ?_ ?_); · exact rfl))) ⟨rfl, trivial⟩ (by repeat (first | exact Ent.refl _ | (apply Ent.cons; · repeat (first | exact pk_head _ _ | apply pk_tail)) | apply Ent.skip))
  have hi32 : i4 = 32 := by omega
  subst hi32
  have hol := outM_len h
  rw [List.take_of_length_le (by omega), show List.replicate (32 - 32) (0 : UInt8) = [] from rfl, List.append_nil]
  generalize outM h = o at hol ⊢
  have hbl : (bv o).length = 32 := by rw [length_bv, hol]
  refine CW.region ?_
  refine L1 (ps_f (ps_lss rfl rfl) (by omega)).os ?_
  refine LW.nil ?_
  repeat (first | refine CW.seq ?_ | refine PW.then_ ?_ | refine PW.then_to rfl ?_ | refine CW.block ?_ | refine CW.skip ?_ | refine CW.ret ?_ | refine PW.then_ret ?_ | refine PW.block_ret ?_ | refine Cut.ret ?_ | refine Rnd.ret ?_ | refine PW.block_normal ?_ | refine CW.exit ?_ | refine PW.then_exit ?_ | refine PW.block_hit ?_ | refine PW.block_miss rfl ?_ | refine Cut.exit ?_ | refine Rnd.exit ?_)
  refine CW.cond_false rfl ?_
  repeat (first | refine CW.seq ?_ | refine PW.then_ ?_ | refine PW.then_to rfl ?_ | refine CW.block ?_ | refine CW.skip ?_ | refine CW.ret ?_ | refine PW.then_ret ?_ | refine PW.block_ret ?_ | refine Cut.ret ?_ | refine Rnd.ret ?_ | refine PW.block_normal ?_ | refine CW.exit ?_ | refine PW.then_exit ?_ | refine PW.block_hit ?_ | refine PW.block_miss rfl ?_ | refine Cut.exit ?_ | refine Rnd.exit ?_)
  refine CW.region ?_
  refine L1 (os_loadAll (b := b7) (cs := bv o) (by repeat (first | exact pk_head _ _ | apply pk_tail)) T.ag25 (by rw [hbl]; exact T.sz25) rfl) ?_
  refine L1 (os_storeAll (b := b2) (vs := bv o) (by repeat (first | exact pk_head _ _ | apply pk_tail)) (by rw [hbl]; exact T.sz25) rfl rfl (bv_one _) (by rw [hbl]; rfl)) ?_
  refine LW.nil ?_
  repeat (first | refine CW.seq ?_ | refine PW.then_ ?_ | refine PW.then_to rfl ?_ | refine CW.block ?_ | refine CW.skip ?_ | refine CW.ret ?_ | refine PW.then_ret ?_ | refine PW.block_ret ?_ | refine Cut.ret ?_ | refine Rnd.ret ?_ | refine PW.block_normal ?_ | refine CW.exit ?_ | refine PW.then_exit ?_ | refine PW.block_hit ?_ | refine PW.block_miss rfl ?_ | refine Cut.exit ?_ | refine Rnd.exit ?_)
  exact Fin.retCell (b := b2) (cs := bv o) rfl (by repeat (first | exact pk_head _ _ | apply pk_tail)) T.ag25 (by rw [hbl]; exact T.sz25) rfl [_, _] ⟨rfl, rfl⟩ (by repeat (first | exact Ent.refl _ | (apply Ent.cons; · repeat (first | exact pk_head _ _ | apply pk_tail)) | apply Ent.skip))
end Go.Proofs.YtcfipblnaifbhaaDoor
