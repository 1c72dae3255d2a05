/- Div64 by ten, Print, Parse: each one's contract. -/
import Derived.Test.YtpcjjchanjdkaaaUx
namespace Go.Proofs.Ytpcjjchanjdkaaa
set_option linter.unusedVariables false
set_option linter.unusedSimpArgs false
open Go Go.SL

theorem Len64_10 : FSpec Try.prog 41 [.int .u64 10] [] (fun r As => r = .int .i64 4 ∧ As = []) := by
  refine FSpec.intro Try.func41 rfl 25 Try.ntmps41 (Nat.le_of_ble_eq_true rfl) fun w0 F => ?_
  show CW _ _ _ _ _ _ (F)
  repeat (first | refine CW.seq ?_ | refine PW.then_ ?_ | refine CW.block ?_ | refine CW.skip ?_ | refine CW.ret ?_ | refine PW.then_ret ?_ | refine PW.block_ret ?_ | refine Cut.ret ?_ | refine Rnd.ret ?_ | refine PW.block_normal ?_ | refine CW.exit ?_ | refine PW.then_exit ?_ | refine PW.block_hit ?_ | refine PW.block_miss rfl ?_ | refine Cut.exit ?_ | refine Rnd.exit ?_)
  refine CW.region ?_
  refine L1 (ps_assign rfl).os ?_
  refine LW.nil ?_
  repeat (first | refine CW.seq ?_ | refine PW.then_ ?_ | refine CW.block ?_ | refine CW.skip ?_ | refine CW.ret ?_ | refine PW.then_ret ?_ | refine PW.block_ret ?_ | refine Cut.ret ?_ | refine Rnd.ret ?_ | refine PW.block_normal ?_ | refine CW.exit ?_ | refine PW.then_exit ?_ | refine PW.block_hit ?_ | refine PW.block_miss rfl ?_ | refine Cut.exit ?_ | refine Rnd.exit ?_)
  refine CW.region ?_
  refine L1 (ps_move rfl).os ?_
  refine L1 (ps_f (ps_geq rfl rfl) (by decide)).os ?_
  refine LW.nil ?_
  repeat (first | refine CW.seq ?_ | refine PW.then_ ?_ | refine CW.block ?_ | refine CW.skip ?_ | refine CW.ret ?_ | refine PW.then_ret ?_ | refine PW.block_ret ?_ | refine Cut.ret ?_ | refine Rnd.ret ?_ | refine PW.block_normal ?_ | refine CW.exit ?_ | refine PW.then_exit ?_ | refine PW.block_hit ?_ | refine PW.block_miss rfl ?_ | refine Cut.exit ?_ | refine Rnd.exit ?_)
  refine CW.cond_false rfl ?_
  repeat (first | refine CW.seq ?_ | refine PW.then_ ?_ | refine CW.block ?_ | refine CW.skip ?_ | refine CW.ret ?_ | refine PW.then_ret ?_ | refine PW.block_ret ?_ | refine Cut.ret ?_ | refine Rnd.ret ?_ | refine PW.block_normal ?_ | refine CW.exit ?_ | refine PW.then_exit ?_ | refine PW.block_hit ?_ | refine PW.block_miss rfl ?_ | refine Cut.exit ?_ | refine Rnd.exit ?_)
  refine CW.region ?_
  refine L1 (ps_move rfl).os ?_
  refine L1 (ps_f (ps_geq rfl rfl) (by decide)).os ?_
  refine LW.nil ?_
  repeat (first | refine CW.seq ?_ | refine PW.then_ ?_ | refine CW.block ?_ | refine CW.skip ?_ | refine CW.ret ?_ | refine PW.then_ret ?_ | refine PW.block_ret ?_ | refine Cut.ret ?_ | refine Rnd.ret ?_ | refine PW.block_normal ?_ | refine CW.exit ?_ | refine PW.then_exit ?_ | refine PW.block_hit ?_ | refine PW.block_miss rfl ?_ | refine Cut.exit ?_ | refine Rnd.exit ?_)
  refine CW.cond_false rfl ?_
  repeat (first | refine CW.seq ?_ | refine PW.then_ ?_ | refine CW.block ?_ | refine CW.skip ?_ | refine CW.ret ?_ | refine PW.then_ret ?_ | refine PW.block_ret ?_ | refine Cut.ret ?_ | refine Rnd.ret ?_ | refine PW.block_normal ?_ | refine CW.exit ?_ | refine PW.then_exit ?_ | refine PW.block_hit ?_ | refine PW.block_miss rfl ?_ | refine Cut.exit ?_ | refine Rnd.exit ?_)
  refine CW.region ?_
  refine L1 (ps_move rfl).os ?_
  refine L1 (ps_f (ps_geq rfl rfl) (by decide)).os ?_
  refine LW.nil ?_
  repeat (first | refine CW.seq ?_ | refine PW.then_ ?_ | refine CW.block ?_ | refine CW.skip ?_ | refine CW.ret ?_ | refine PW.then_ret ?_ | refine PW.block_ret ?_ | refine Cut.ret ?_ | refine Rnd.ret ?_ | refine PW.block_normal ?_ | refine CW.exit ?_ | refine PW.then_exit ?_ | refine PW.block_hit ?_ | refine PW.block_miss rfl ?_ | refine Cut.exit ?_ | refine Rnd.exit ?_)
  refine CW.cond_false rfl ?_
  repeat (first | refine CW.seq ?_ | refine PW.then_ ?_ | refine CW.block ?_ | refine CW.skip ?_ | refine CW.ret ?_ | refine PW.then_ret ?_ | refine PW.block_ret ?_ | refine Cut.ret ?_ | refine Rnd.ret ?_ | refine PW.block_normal ?_ | refine CW.exit ?_ | refine PW.then_exit ?_ | refine PW.block_hit ?_ | refine PW.block_miss rfl ?_ | refine Cut.exit ?_ | refine Rnd.exit ?_)
  refine CW.region ?_
  refine L1 (ps_move rfl).os ?_
  refine L1 (ps_move rfl).os ?_
  refine L1 (ps_to (u := .int .u8 10) (by rfl) (ps_conv (by kernel_rfl) T.un5 rfl)).os ?_
  refine L1 (ps_to (u := .int .u8 4) (by kernel_rfl) (ps_idx_str T.un9 rfl rfl (by decide) (by exact Nat.le_of_ble_eq_true (by kernel_rfl)))).os ?_
  refine L1 (ps_to (u := .int .i64 4) (by rfl) (ps_conv (by kernel_rfl) T.un3 rfl)).os ?_
  refine L1 (ps_to (u := .int .i64 4) (by rfl) (ps_add rfl rfl)).os ?_
  refine L1 (ps_assign rfl).os ?_
  refine LW.nil ?_
  repeat (first | refine CW.seq ?_ | refine PW.then_ ?_ | refine CW.block ?_ | refine CW.skip ?_ | refine CW.ret ?_ | refine PW.then_ret ?_ | refine PW.block_ret ?_ | refine Cut.ret ?_ | refine Rnd.ret ?_ | refine PW.block_normal ?_ | refine CW.exit ?_ | refine PW.then_exit ?_ | refine PW.block_hit ?_ | refine PW.block_miss rfl ?_ | refine Cut.exit ?_ | refine Rnd.exit ?_)
  exact Fin.ret1 (v := .int .i64 4) rfl [] rfl ⟨rfl, rfl⟩ (by repeat (first | exact Ent.refl _ | (apply Ent.cons; · repeat (first | exact pk_head _ _ | apply pk_tail)) | apply Ent.skip))
theorem LZ64_10 : FSpec Try.prog 40 [.int .u64 10] [] (fun r As => r = .int .i64 60 ∧ As = []) := by
  refine FSpec.intro Try.func40 rfl 6 Try.ntmps40 (Nat.le_of_ble_eq_true rfl) fun w0 F => ?_
  show CW _ _ _ _ _ _ (F)
  repeat (first | refine CW.seq ?_ | refine PW.then_ ?_ | refine CW.block ?_ | refine CW.skip ?_ | refine CW.ret ?_ | refine PW.then_ret ?_ | refine PW.block_ret ?_ | refine Cut.ret ?_ | refine Rnd.ret ?_ | refine PW.block_normal ?_ | refine CW.exit ?_ | refine PW.then_exit ?_ | refine PW.block_hit ?_ | refine PW.block_miss rfl ?_ | refine Cut.exit ?_ | refine Rnd.exit ?_)
  refine CW.region ?_
  refine L1 (ps_assign rfl).os ?_
  refine LW.nil ?_
  repeat (first | refine CW.seq ?_ | refine PW.then_ ?_ | refine CW.block ?_ | refine CW.skip ?_ | refine CW.ret ?_ | refine PW.then_ret ?_ | refine PW.block_ret ?_ | refine Cut.ret ?_ | refine Rnd.ret ?_ | refine PW.block_normal ?_ | refine CW.exit ?_ | refine PW.then_exit ?_ | refine PW.block_hit ?_ | refine PW.block_miss rfl ?_ | refine Cut.exit ?_ | refine Rnd.exit ?_)
  refine CW.region ?_
  refine L1 (ps_move rfl).os ?_
  refine L1 (os_call0 Len64_10 Try.func41 (by decide +kernel) rfl rfl) ?_
  refine L1 (ps_to (u := .int .i64 60) (by rfl) (ps_sub rfl rfl)).os ?_
  refine L1 (ps_assign rfl).os ?_
  refine LW.nil ?_
  repeat (first | refine CW.seq ?_ | refine PW.then_ ?_ | refine CW.block ?_ | refine CW.skip ?_ | refine CW.ret ?_ | refine PW.then_ret ?_ | refine PW.block_ret ?_ | refine Cut.ret ?_ | refine Rnd.ret ?_ | refine PW.block_normal ?_ | refine CW.exit ?_ | refine PW.then_exit ?_ | refine PW.block_hit ?_ | refine PW.block_miss rfl ?_ | refine Cut.exit ?_ | refine Rnd.exit ?_)
  exact Fin.ret1 (v := .int .i64 60) rfl [] rfl ⟨rfl, rfl⟩ (by repeat (first | exact Ent.refl _ | (apply Ent.cons; · repeat (first | exact pk_head _ _ | apply pk_tail)) | apply Ent.skip))
structure DivF (hi lo un32 un1 q1 r1 un21 q0 r0 : Nat) : Prop where
  e51 : (hi * 1152921504606846976 % 18446744073709551616) ||| (lo / 2 ^ 4) = un32
  lt46 : hi * 1152921504606846976 % 18446744073709551616 < 18446744073709551616
  lt50 : lo / 2 ^ 4 < 18446744073709551616
  e56 : lo * 1152921504606846976 % 18446744073709551616 / 2 ^ 32 = un1
  e58 : (((lo * 1152921504606846976 % 18446744073709551616 : Nat) : Int) % ((2 ^ 32 : Nat) : Int)) = 0
  e61 : (un32 : Int) / 2684354560 = (q1 : Int)
  lt32 : 0 ≤ (un32 : Int) ∧ (un32 : Int) < 18446744073709551616
  e66 : IntKind.u64.wrap ((un32 : Int) - IntKind.u64.wrap ((q1 : Int) * 2684354560)) = (r1 : Int)
  n68 : ¬ (4294967296 : Int) ≤ (q1 : Int)
  n77 : ¬ IntKind.u64.wrap (IntKind.u64.wrap (4294967296 * (r1 : Int)) + (un1 : Int)) < IntKind.u64.wrap ((q1 : Int) * 0)
  e93 : IntKind.u64.wrap (IntKind.u64.wrap (IntKind.u64.wrap ((un32 : Int) * 4294967296) + (un1 : Int)) - IntKind.u64.wrap ((q1 : Int) * 11529215046068469760)) = (un21 : Int)
  lt21 : 0 ≤ (un21 : Int) ∧ (un21 : Int) < 18446744073709551616
  e96 : (un21 : Int) / 2684354560 = (q0 : Int)
  e101 : IntKind.u64.wrap ((un21 : Int) - IntKind.u64.wrap ((q0 : Int) * 2684354560)) = (r0 : Int)
  n103 : ¬ (4294967296 : Int) ≤ (q0 : Int)
  n112 : ¬ IntKind.u64.wrap (IntKind.u64.wrap (4294967296 * (r0 : Int)) + 0) < IntKind.u64.wrap ((q0 : Int) * 0)
  e124 : IntKind.u64.wrap (IntKind.u64.wrap ((q1 : Int) * 4294967296) + (q0 : Int)) = ((q1 * 4294967296 + q0 : Nat) : Int)
  e132 : IntKind.u64.wrap (IntKind.u64.wrap (IntKind.u64.wrap ((un21 : Int) * 4294967296) + 0) - IntKind.u64.wrap ((q0 : Int) * 11529215046068469760)) = ((r0 * 4294967296 : Nat) : Int)
theorem mod3 (A b C N : Int) : ((A % N + b) % N - C % N) % N = (A + b - C) % N := by
  rw [Int.emod_add_emod, ← Int.sub_emod]
theorem not_wrap_lt (A B : Int) : ¬ IntKind.u64.wrap A < IntKind.u64.wrap (B * 0) := by
  rw [Int.mul_zero, wrap_u64_id (a := 0) (by decide) (by decide), wrap_u64]
  have := Int.emod_nonneg A (b := 18446744073709551616) (by decide)
  omega
theorem div_part (U q r : Nat) (h : U = q * 2684354560 + r) (hr : r < 2684354560) (hU : U < 11529215046068469760) :
    (U : Int) / 2684354560 = (q : Int) ∧ (0 ≤ (U : Int) ∧ (U : Int) < 18446744073709551616) ∧ IntKind.u64.wrap ((U : Int) - IntKind.u64.wrap ((q : Int) * 2684354560)) = (r : Int) ∧ ¬ (4294967296 : Int) ≤ (q : Int) := by
  subst h
  refine ⟨by omega, by omega, ?_, by omega⟩
  rw [wrap_u64_id (a := (q : Int) * 2684354560) (by omega) (by omega), wrap_u64_id (by omega) (by omega)]
  omega
theorem div_mul (U q r b V : Nat) (h : U = q * 2684354560 + r) (hV : V = r * 4294967296 + b) (hV2 : V < 18446744073709551616) :
    IntKind.u64.wrap (IntKind.u64.wrap (IntKind.u64.wrap ((U : Int) * 4294967296) + (b : Int)) - IntKind.u64.wrap ((q : Int) * 11529215046068469760)) = (V : Int) := by
  rw [wrap_u64, wrap_u64, wrap_u64, wrap_u64, mod3]
  have e : (U : Int) * 4294967296 + (b : Int) - (q : Int) * 11529215046068469760 = (V : Int) := by
    subst h; subst hV; omega
  rw [e]
  exact Int.emod_eq_of_lt (by omega) (by omega)
theorem div_sum (hi l0 l1 lo un32 un1 q1 r1 un21 q0 r0 : Nat) (hlo : lo = l0 * 16 + l1) (hu : un32 = hi * 1152921504606846976 + l0) (hu1 : un1 = l1 * 268435456) (hq1 : un32 = q1 * 2684354560 + r1) (hun21 : un21 = r1 * 4294967296 + un1) (hq0 : un21 = q0 * 2684354560 + r0) :
    (q1 * 4294967296 + q0) * 2684354560 + r0 = (hi * 18446744073709551616 + lo) * 268435456 := by omega
theorem div_last (Q X r : Nat) (h : Q * 2684354560 + r = X * 268435456) (hr : r < 2684354560) : Q = X / 10 ∧ r = X % 10 * 268435456 := by omega
theorem div_a (l : Nat) : l * 1152921504606846976 / 2 ^ 32 = l * 268435456 := by
  rw [show (1152921504606846976 : Nat) = 268435456 * 2 ^ 32 from rfl, ← Nat.mul_assoc, Nat.mul_div_cancel _ (by decide)]
theorem div_b (l : Nat) : (((l * 1152921504606846976 : Nat) : Int) % ((2 ^ 32 : Nat) : Int)) = 0 := by
  rw [show (1152921504606846976 : Nat) = 268435456 * 2 ^ 32 from rfl, ← Nat.mul_assoc, ← Int.natCast_emod, Nat.mul_mod_left]; rfl
theorem div_c (q1 q0 : Nat) (h1 : ¬ (4294967296 : Int) ≤ (q1 : Int)) (h0 : ¬ (4294967296 : Int) ≤ (q0 : Int)) : IntKind.u64.wrap (IntKind.u64.wrap ((q1 : Int) * 4294967296) + (q0 : Int)) = ((q1 * 4294967296 + q0 : Nat) : Int) := by
  rw [wrap_u64_id (a := (q1 : Int) * 4294967296) (by omega) (by omega), wrap_u64_id (by omega) (by omega)]
  omega
theorem div_d (s : Nat) : s * 268435456 * 4294967296 / 2 ^ 60 = s := by
  rw [show (2 : Nat) ^ 60 = 268435456 * 4294967296 from rfl, Nat.mul_assoc, Nat.mul_div_cancel _ (by decide)]
theorem div_facts (hi lo : Nat) (hh : hi < 10) (hl : lo < 18446744073709551616) :
    ∃ un32 un1 q1 r1 un21 q0 r0, DivF hi lo un32 un1 q1 r1 un21 q0 r0 ∧ q1 * 4294967296 + q0 = (hi * 18446744073709551616 + lo) / 10 ∧ r0 * 4294967296 / 2 ^ 60 = (hi * 18446744073709551616 + lo) % 10 := by
  obtain ⟨l0, l1, h16, hlo⟩ : ∃ l0 l1, l1 < 16 ∧ lo = l0 * 16 + l1 := ⟨lo / 16, lo % 16, by omega, by omega⟩
  have ho := or_low hi l0 60 (by omega)
  have a1 : hi * 1152921504606846976 % 18446744073709551616 = hi * 1152921504606846976 := Nat.mod_eq_of_lt (by omega)
  have a2 : lo / 2 ^ 4 = l0 := by omega
  have a3 : lo * 1152921504606846976 % 18446744073709551616 = l1 * 1152921504606846976 := by
    rw [show (18446744073709551616 : Nat) = 16 * 1152921504606846976 from rfl, Nat.mul_mod_mul_right]
    congr 1; omega
  obtain ⟨un32, hu⟩ : ∃ n, n = hi * 1152921504606846976 + l0 := ⟨_, rfl⟩
  obtain ⟨un1, hu1⟩ : ∃ n, n = l1 * 268435456 := ⟨_, rfl⟩
  have b8 : un32 < 11529215046068469760 := by omega
  obtain ⟨q1, r1, hr1, hq1⟩ : ∃ q r, r < 2684354560 ∧ un32 = q * 2684354560 + r := ⟨un32 / 2684354560, un32 % 2684354560, Nat.mod_lt _ (by decide), (Nat.div_add_mod' un32 2684354560).symm⟩
  obtain ⟨un21, hun21⟩ : ∃ n, n = r1 * 4294967296 + un1 := ⟨_, rfl⟩
  have b9 : un21 < 11529215046068469760 := by clear ho a1 a2 a3 hlo hq1 hu; omega
  obtain ⟨q0, r0, hr0, hq0⟩ : ∃ q r, r < 2684354560 ∧ un21 = q * 2684354560 + r := ⟨un21 / 2684354560, un21 % 2684354560, Nat.mod_lt _ (by decide), (Nat.div_add_mod' un21 2684354560).symm⟩
  have c1 : un21 < 18446744073709551616 := Nat.lt_trans b9 (by decide)
  have c2 : r0 * 4294967296 < 18446744073709551616 := Nat.lt_of_lt_of_le (Nat.mul_lt_mul_of_pos_right hr0 (by decide)) (by decide)
  obtain ⟨e61, lt32, e66, n68⟩ := div_part un32 q1 r1 hq1 hr1 b8
  obtain ⟨e96, lt21, e101, n103⟩ := div_part un21 q0 r0 hq0 hr0 b9
  have e93 := div_mul un32 q1 r1 un1 un21 hq1 hun21 c1
  have e132 := div_mul un21 q0 r0 0 (r0 * 4294967296) hq0 (Nat.add_zero _).symm c2
  obtain ⟨a6, a7⟩ := div_last (q1 * 4294967296 + q0) (hi * 18446744073709551616 + lo) r0 (div_sum hi l0 l1 lo un32 un1 q1 r1 un21 q0 r0 hlo hu hu1 hq1 hun21 hq0) hr0
  have d1 : lo / 2 ^ 4 < 18446744073709551616 := Nat.lt_of_le_of_lt (Nat.div_le_self _ _) hl
  exact ⟨un32, un1, q1, r1, un21, q0, r0, ⟨by rw [a1, a2, hu]; exact ho, Nat.mod_lt _ (by decide), d1, by rw [a3, hu1]; exact div_a l1, by rw [a3]; exact div_b l1, e61, lt32, e66, n68, not_wrap_lt _ _, e93, lt21, e96, e101, n103, not_wrap_lt _ _, div_c q1 q0 n68 n103, e132⟩,
    a6, by rw [a7]; exact div_d _⟩

set_option maxHeartbeats 1000000 in
theorem Div64_10 (hi lo : Nat) (hh : hi < 10) (hl : lo < 18446744073709551616) : FSpec Try.prog 39 [.int .u64 (hi : Int), .int .u64 (lo : Int), .int .u64 10] []
    (fun r As => (∃ q d : Nat, r = .tuple #[.int .u64 (q : Int), .int .u64 (d : Int)] ∧ q = (hi * 18446744073709551616 + lo) / 10 ∧ d = (hi * 18446744073709551616 + lo) % 10) ∧ As = []) := by
  obtain ⟨un32, un1, q1, r1, un21, q0, r0, hf, hquo, hrem⟩ := div_facts hi lo hh hl
  have h24 : ¬ (10 : Int) ≤ (hi : Int) := by omega
  refine FSpec.intro Try.func39 rfl 135 Try.ntmps39 (Nat.le_of_ble_eq_true rfl) fun w0 F => ?_
  show CW _ _ _ _ _ _ (F)
  repeat (first | refine CW.seq ?_ | refine PW.then_ ?_ | refine CW.block ?_ | refine CW.skip ?_ | refine CW.ret ?_ | refine PW.then_ret ?_ | refine PW.block_ret ?_ | refine Cut.ret ?_ | refine Rnd.ret ?_ | refine PW.block_normal ?_ | refine CW.exit ?_ | refine PW.then_exit ?_ | refine PW.block_hit ?_ | refine PW.block_miss rfl ?_ | refine Cut.exit ?_ | refine Rnd.exit ?_)
  refine CW.region ?_
  refine L1 (ps_assign rfl).os ?_
  refine L1 (ps_assign rfl).os ?_
  refine LW.nil ?_
  repeat (first | refine CW.seq ?_ | refine PW.then_ ?_ | refine CW.block ?_ | refine CW.skip ?_ | refine CW.ret ?_ | refine PW.then_ret ?_ | refine PW.block_ret ?_ | refine Cut.ret ?_ | refine Rnd.ret ?_ | refine PW.block_normal ?_ | refine CW.exit ?_ | refine PW.then_exit ?_ | refine PW.block_hit ?_ | refine PW.block_miss rfl ?_ | refine Cut.exit ?_ | refine Rnd.exit ?_)
  refine CW.region ?_
  refine L1 (ps_move rfl).os ?_
  refine L1 (ps_f (ps_eql rfl rfl) (by decide)).os ?_
  refine LW.nil ?_
  repeat (first | refine CW.seq ?_ | refine PW.then_ ?_ | refine CW.block ?_ | refine CW.skip ?_ | refine CW.ret ?_ | refine PW.then_ret ?_ | refine PW.block_ret ?_ | refine Cut.ret ?_ | refine Rnd.ret ?_ | refine PW.block_normal ?_ | refine CW.exit ?_ | refine PW.then_exit ?_ | refine PW.block_hit ?_ | refine PW.block_miss rfl ?_ | refine Cut.exit ?_ | refine Rnd.exit ?_)
  refine CW.cond_false rfl ?_
  repeat (first | refine CW.seq ?_ | refine PW.then_ ?_ | refine CW.block ?_ | refine CW.skip ?_ | refine CW.ret ?_ | refine PW.then_ret ?_ | refine PW.block_ret ?_ | refine Cut.ret ?_ | refine Rnd.ret ?_ | refine PW.block_normal ?_ | refine CW.exit ?_ | refine PW.then_exit ?_ | refine PW.block_hit ?_ | refine PW.block_miss rfl ?_ | refine Cut.exit ?_ | refine Rnd.exit ?_)
  refine CW.region ?_
  refine L1 (ps_move rfl).os ?_
  refine L1 (ps_move rfl).os ?_
  refine L1 (ps_f (ps_leq rfl rfl) (h24)).os ?_
  refine LW.nil ?_
  repeat (first | refine CW.seq ?_ | refine PW.then_ ?_ | refine CW.block ?_ | refine CW.skip ?_ | refine CW.ret ?_ | refine PW.then_ret ?_ | refine PW.block_ret ?_ | refine Cut.ret ?_ | refine Rnd.ret ?_ | refine PW.block_normal ?_ | refine CW.exit ?_ | refine PW.then_exit ?_ | refine PW.block_hit ?_ | refine PW.block_miss rfl ?_ | refine Cut.exit ?_ | refine Rnd.exit ?_)
  refine CW.cond_false rfl ?_
  repeat (first | refine CW.seq ?_ | refine PW.then_ ?_ | refine CW.block ?_ | refine CW.skip ?_ | refine CW.ret ?_ | refine PW.then_ret ?_ | refine PW.block_ret ?_ | refine Cut.ret ?_ | refine Rnd.ret ?_ | refine PW.block_normal ?_ | refine CW.exit ?_ | refine PW.then_exit ?_ | refine PW.block_hit ?_ | refine PW.block_miss rfl ?_ | refine Cut.exit ?_ | refine Rnd.exit ?_)
  by_cases h0 : hi = 0
  · subst h0
    have hl2 : 0 ≤ (lo : Int) ∧ (lo : Int) < 18446744073709551616 := by omega
    have p1 : (0 * 18446744073709551616 + lo) / 10 = lo / 10 := by rw [Nat.zero_mul, Nat.zero_add]
    have p2 : (0 * 18446744073709551616 + lo) % 10 = lo % 10 := by rw [Nat.zero_mul, Nat.zero_add]
    refine CW.region ?_
    refine L1 (ps_move rfl).os ?_
    refine L1 (ps_t (ps_eql rfl rfl) (rfl)).os ?_
    refine LW.nil ?_
    repeat (first | refine CW.seq ?_ | refine PW.then_ ?_ | refine CW.block ?_ | refine CW.skip ?_ | refine CW.ret ?_ | refine PW.then_ret ?_ | refine PW.block_ret ?_ | refine Cut.ret ?_ | refine Rnd.ret ?_ | refine PW.block_normal ?_ | refine CW.exit ?_ | refine PW.then_exit ?_ | refine PW.block_hit ?_ | refine PW.block_miss rfl ?_ | refine Cut.exit ?_ | refine Rnd.exit ?_)
    refine CW.cond_true rfl ?_
    repeat (first | refine CW.seq ?_ | refine PW.then_ ?_ | refine CW.block ?_ | refine CW.skip ?_ | refine CW.ret ?_ | refine PW.then_ret ?_ | refine PW.block_ret ?_ | refine Cut.ret ?_ | refine Rnd.ret ?_ | refine PW.block_normal ?_ | refine CW.exit ?_ | refine PW.then_exit ?_ | refine PW.block_hit ?_ | refine PW.block_miss rfl ?_ | refine Cut.exit ?_ | refine Rnd.exit ?_)
    refine CW.draw T.mixed ?_
    refine A_take (i := 0) (some 28) rfl rfl (by kernel_rfl) (by kernel_rfl) (by kernel_rfl) rfl (ps_move rfl) ?_
    refine A_take (i := 1) (some 29) rfl rfl (by kernel_rfl) (by kernel_rfl) (by kernel_rfl) rfl (ps_move rfl) ?_
    refine A_take (i := 2) (some 30) rfl rfl (by kernel_rfl) (by kernel_rfl) (by kernel_rfl) rfl (ps_to (u := .int .u64 ((lo / 10 : Nat) : Int)) (by rfl) (ps_quo_u64 rfl rfl hl2 (by decide))) ?_
    refine A_take (i := 3) (some 31) rfl rfl (by kernel_rfl) (by kernel_rfl) (by kernel_rfl) rfl (ps_move rfl) ?_
    refine A_take (i := 4) (some 32) rfl rfl (by kernel_rfl) (by kernel_rfl) (by kernel_rfl) rfl (ps_move rfl) ?_
    refine A_take (i := 5) (some 33) rfl rfl (by kernel_rfl) (by kernel_rfl) (by kernel_rfl) rfl (ps_to (u := .int .u64 ((lo % 10 : Nat) : Int)) (by rfl) (ps_rem_pos rfl rfl hl2.1 (by decide))) ?_
    refine A_take (i := 6) (some 6) rfl rfl (by kernel_rfl) (by kernel_rfl) (by kernel_rfl) rfl (ps_assign rfl) ?_
    refine A_take (i := 7) (some 7) rfl rfl (by kernel_rfl) (by kernel_rfl) (by kernel_rfl) rfl (ps_assign rfl) ?_
    refine A_done (by kernel_rfl) ?_
    repeat (first | refine CW.seq ?_ | refine PW.then_ ?_ | refine CW.block ?_ | refine CW.skip ?_ | refine CW.ret ?_ | refine PW.then_ret ?_ | refine PW.block_ret ?_ | refine Cut.ret ?_ | refine Rnd.ret ?_ | refine PW.block_normal ?_ | refine CW.exit ?_ | refine PW.then_exit ?_ | refine PW.block_hit ?_ | refine PW.block_miss rfl ?_ | refine Cut.exit ?_ | refine Rnd.exit ?_)
    exact Fin.ret2 (v1 := .int .u64 ((lo / 10 : Nat) : Int)) (v2 := .int .u64 ((lo % 10 : Nat) : Int)) rfl [] rfl rfl ⟨⟨_, _, rfl, p1.symm, p2.symm⟩, rfl⟩ (by repeat (first | exact Ent.refl _ | (apply Ent.cons; · repeat (first | exact pk_head _ _ | apply pk_tail)) | apply Ent.skip))
  have h27 : ¬ (hi : Int) = 0 := by omega
  clear hh hl h24 h0
  refine CW.region ?_
  refine L1 (ps_move rfl).os ?_
  refine L1 (ps_f (ps_eql rfl rfl) (h27)).os ?_
  refine LW.nil ?_
  repeat (first | refine CW.seq ?_ | refine PW.then_ ?_ | refine CW.block ?_ | refine CW.skip ?_ | refine CW.ret ?_ | refine PW.then_ret ?_ | refine PW.block_ret ?_ | refine Cut.ret ?_ | refine Rnd.ret ?_ | refine PW.block_normal ?_ | refine CW.exit ?_ | refine PW.then_exit ?_ | refine PW.block_hit ?_ | refine PW.block_miss rfl ?_ | refine Cut.exit ?_ | refine Rnd.exit ?_)
  refine CW.cond_false rfl ?_
  repeat (first | refine CW.seq ?_ | refine PW.then_ ?_ | refine CW.block ?_ | refine CW.skip ?_ | refine CW.ret ?_ | refine PW.then_ret ?_ | refine PW.block_ret ?_ | refine Cut.ret ?_ | refine Rnd.ret ?_ | refine PW.block_normal ?_ | refine CW.exit ?_ | refine PW.then_exit ?_ | refine PW.block_hit ?_ | refine PW.block_miss rfl ?_ | refine Cut.exit ?_ | refine Rnd.exit ?_)
  refine CW.region ?_
  refine L1 (ps_move rfl).os ?_
  refine L1 (os_call0 LZ64_10 Try.func40 (by decide +kernel) rfl rfl) ?_
  refine L1 (ps_to (u := .int .u64 60) (by rfl) (ps_conv (by kernel_rfl) T.un80 rfl)).os ?_
  refine L1 (ps_assign rfl).os ?_
  refine LW.nil ?_
  repeat (first | refine CW.seq ?_ | refine PW.then_ ?_ | refine CW.block ?_ | refine CW.skip ?_ | refine CW.ret ?_ | refine PW.then_ret ?_ | refine PW.block_ret ?_ | refine Cut.ret ?_ | refine Rnd.ret ?_ | refine PW.block_normal ?_ | refine CW.exit ?_ | refine PW.then_exit ?_ | refine PW.block_hit ?_ | refine PW.block_miss rfl ?_ | refine Cut.exit ?_ | refine Rnd.exit ?_)
  refine CW.region ?_
  refine L1 (ps_move rfl).os ?_
  refine L1 (ps_move rfl).os ?_
  refine L1 (ps_to (u := .int .u64 11529215046068469760) (by rfl) (ps_shl rfl rfl (by decide))).os ?_
  refine L1 (ps_assign rfl).os ?_
  refine LW.nil ?_
  repeat (first | refine CW.seq ?_ | refine PW.then_ ?_ | refine CW.block ?_ | refine CW.skip ?_ | refine CW.ret ?_ | refine PW.then_ret ?_ | refine PW.block_ret ?_ | refine Cut.ret ?_ | refine Rnd.ret ?_ | refine PW.block_normal ?_ | refine CW.exit ?_ | refine PW.then_exit ?_ | refine PW.block_hit ?_ | refine PW.block_miss rfl ?_ | refine Cut.exit ?_ | refine Rnd.exit ?_)
  refine CW.region ?_
  refine L1 (ps_move rfl).os ?_
  refine L1 (ps_to (u := .int .u64 2684354560) (by rfl) (ps_shr rfl rfl (by decide))).os ?_
  refine L1 (ps_assign rfl).os ?_
  refine LW.nil ?_
  repeat (first | refine CW.seq ?_ | refine PW.then_ ?_ | refine CW.block ?_ | refine CW.skip ?_ | refine CW.ret ?_ | refine PW.then_ret ?_ | refine PW.block_ret ?_ | refine Cut.ret ?_ | refine Rnd.ret ?_ | refine PW.block_normal ?_ | refine CW.exit ?_ | refine PW.then_exit ?_ | refine PW.block_hit ?_ | refine PW.block_miss rfl ?_ | refine Cut.exit ?_ | refine Rnd.exit ?_)
  refine CW.region ?_
  refine L1 (ps_move rfl).os ?_
  refine L1 (ps_to (u := .int .u64 0) (by rfl) (ps_mask_u64 (m := 32) rfl rfl rfl (by decide))).os ?_
  refine L1 (ps_assign rfl).os ?_
  refine LW.nil ?_
  repeat (first | refine CW.seq ?_ | refine PW.then_ ?_ | refine CW.block ?_ | refine CW.skip ?_ | refine CW.ret ?_ | refine PW.then_ret ?_ | refine PW.block_ret ?_ | refine Cut.ret ?_ | refine Rnd.ret ?_ | refine PW.block_normal ?_ | refine CW.exit ?_ | refine PW.then_exit ?_ | refine PW.block_hit ?_ | refine PW.block_miss rfl ?_ | refine Cut.exit ?_ | refine Rnd.exit ?_)
  refine CW.region ?_
  refine L1 (ps_move rfl).os ?_
  refine L1 (ps_move rfl).os ?_
  refine L1 (ps_shlM hi 60 1152921504606846976 rfl rfl rfl (by decide) rfl).os ?_
  refine L1 (ps_move rfl).os ?_
  refine L1 (ps_move rfl).os ?_
  refine L1 (ps_to (u := .int .u64 4) (by rfl) (ps_sub rfl rfl)).os ?_
  refine L1 (ps_shrN lo 4 rfl rfl rfl (by decide)).os ?_
  refine L1 (ps_to (u := .int .u64 (un32 : Int)) (congrArg (fun z : Nat => Value.int .u64 (z : Int)) hf.e51) (ps_orN_u64 (hi * 1152921504606846976 % 18446744073709551616) (lo / 2 ^ 4) rfl rfl hf.lt46 hf.lt50)).os ?_
  refine L1 (ps_assign rfl).os ?_
  refine LW.nil ?_
  repeat (first | refine CW.seq ?_ | refine PW.then_ ?_ | refine CW.block ?_ | refine CW.skip ?_ | refine CW.ret ?_ | refine PW.then_ret ?_ | refine PW.block_ret ?_ | refine Cut.ret ?_ | refine Rnd.ret ?_ | refine PW.block_normal ?_ | refine CW.exit ?_ | refine PW.then_exit ?_ | refine PW.block_hit ?_ | refine PW.block_miss rfl ?_ | refine Cut.exit ?_ | refine Rnd.exit ?_)
  refine CW.region ?_
  refine L1 (ps_move rfl).os ?_
  refine L1 (ps_move rfl).os ?_
  refine L1 (ps_shlM lo 60 1152921504606846976 rfl rfl rfl (by decide) rfl).os ?_
  refine L1 (ps_assign rfl).os ?_
  refine LW.nil ?_
  repeat (first | refine CW.seq ?_ | refine PW.then_ ?_ | refine CW.block ?_ | refine CW.skip ?_ | refine CW.ret ?_ | refine PW.then_ret ?_ | refine PW.block_ret ?_ | refine Cut.ret ?_ | refine Rnd.ret ?_ | refine PW.block_normal ?_ | refine CW.exit ?_ | refine PW.then_exit ?_ | refine PW.block_hit ?_ | refine PW.block_miss rfl ?_ | refine Cut.exit ?_ | refine Rnd.exit ?_)
  refine CW.region ?_
  refine L1 (ps_move rfl).os ?_
  refine L1 (ps_to (u := .int .u64 (un1 : Int)) (congrArg (fun z : Nat => Value.int .u64 (z : Int)) hf.e56) (ps_shrN (lo * 1152921504606846976 % 18446744073709551616) 32 rfl rfl rfl (by decide))).os ?_
  refine L1 (ps_assign rfl).os ?_
  refine LW.nil ?_
  repeat (first | refine CW.seq ?_ | refine PW.then_ ?_ | refine CW.block ?_ | refine CW.skip ?_ | refine CW.ret ?_ | refine PW.then_ret ?_ | refine PW.block_ret ?_ | refine Cut.ret ?_ | refine Rnd.ret ?_ | refine PW.block_normal ?_ | refine CW.exit ?_ | refine PW.then_exit ?_ | refine PW.block_hit ?_ | refine PW.block_miss rfl ?_ | refine Cut.exit ?_ | refine Rnd.exit ?_)
  refine CW.region ?_
  refine L1 (ps_move rfl).os ?_
  refine L1 (ps_to (u := .int .u64 0) (congrArg (Value.int .u64) hf.e58) (ps_mask_u64 (m := 32) rfl rfl rfl (by decide))).os ?_
  refine L1 (ps_assign rfl).os ?_
  refine LW.nil ?_
  repeat (first | refine CW.seq ?_ | refine PW.then_ ?_ | refine CW.block ?_ | refine CW.skip ?_ | refine CW.ret ?_ | refine PW.then_ret ?_ | refine PW.block_ret ?_ | refine Cut.ret ?_ | refine Rnd.ret ?_ | refine PW.block_normal ?_ | refine CW.exit ?_ | refine PW.then_exit ?_ | refine PW.block_hit ?_ | refine PW.block_miss rfl ?_ | refine Cut.exit ?_ | refine Rnd.exit ?_)
  refine CW.region ?_
  refine L1 (ps_move rfl).os ?_
  refine L1 (ps_move rfl).os ?_
  refine L1 (ps_to (u := .int .u64 (q1 : Int)) (congrArg (Value.int .u64) hf.e61) (ps_quo_u64 rfl rfl hf.lt32 (by decide))).os ?_
  refine L1 (ps_assign rfl).os ?_
  refine LW.nil ?_
  repeat (first | refine CW.seq ?_ | refine PW.then_ ?_ | refine CW.block ?_ | refine CW.skip ?_ | refine CW.ret ?_ | refine PW.then_ret ?_ | refine PW.block_ret ?_ | refine Cut.ret ?_ | refine Rnd.ret ?_ | refine PW.block_normal ?_ | refine CW.exit ?_ | refine PW.then_exit ?_ | refine PW.block_hit ?_ | refine PW.block_miss rfl ?_ | refine Cut.exit ?_ | refine Rnd.exit ?_)
  refine CW.region ?_
  refine L1 (ps_move rfl).os ?_
  refine L1 (ps_move rfl).os ?_
  refine L1 (ps_move rfl).os ?_
  refine L1 (ps_mul rfl rfl).os ?_
  refine L1 (ps_to (u := .int .u64 (r1 : Int)) (congrArg (Value.int .u64) hf.e66) (ps_sub rfl rfl)).os ?_
  refine L1 (ps_assign rfl).os ?_
  refine LW.nil ?_
  repeat (first | refine CW.seq ?_ | refine PW.then_ ?_ | refine CW.block ?_ | refine CW.skip ?_ | refine CW.ret ?_ | refine PW.then_ret ?_ | refine PW.block_ret ?_ | refine Cut.ret ?_ | refine Rnd.ret ?_ | refine PW.block_normal ?_ | refine CW.exit ?_ | refine PW.then_exit ?_ | refine PW.block_hit ?_ | refine PW.block_miss rfl ?_ | refine Cut.exit ?_ | refine Rnd.exit ?_)
  refine CW.loopM (α := Unit) [15, 16, 67, 68, 69, 70, 71, 72, 73, 74, 75, 76, 77, 78, 79, 80, 81, 82, 83, 84, 85] (fun k _ => k = 0) (fun _ => [(15, .int .u64 (q1 : Int)), (16, .int .u64 (r1 : Int))]) (fun _ => F) 0 () rfl ⟨rfl, rfl, trivial⟩ (by repeat (first | exact Ent.refl _ | (apply Ent.cons; · repeat (first | exact pk_head _ _ | apply pk_tail)) | apply Ent.skip)) ?_
  rintro k _ g rfl
  repeat (first | refine CW.seq ?_ | refine PW.then_ ?_ | refine CW.block ?_ | refine CW.skip ?_ | refine CW.ret ?_ | refine PW.then_ret ?_ | refine PW.block_ret ?_ | refine Cut.ret ?_ | refine Rnd.ret ?_ | refine PW.block_normal ?_ | refine CW.exit ?_ | refine PW.then_exit ?_ | refine PW.block_hit ?_ | refine PW.block_miss rfl ?_ | refine Cut.exit ?_ | refine Rnd.exit ?_)
  refine CW.region ?_
  refine L1 (ps_move rfl).os ?_
  refine L1 (ps_f (ps_geq rfl rfl) (hf.n68)).os ?_
  refine L1 (ps_move rfl).os ?_
  refine LG1 ?_ (ps_move rfl).os ?_
  · exact rfl
  refine LG1 ?_ (ps_move rfl).os ?_
  · exact rfl
  refine LG1 ?_ (ps_mul rfl rfl).os ?_
  · exact rfl
  refine LG1 ?_ (ps_move rfl).os ?_
  · exact rfl
  refine LG1 ?_ (ps_mul rfl rfl).os ?_
  · exact rfl
  refine LG1 ?_ (ps_move rfl).os ?_
  · exact rfl
  refine LG1 ?_ (ps_add rfl rfl).os ?_
  · exact rfl
  refine LG1 ?_ (ps_f (ps_gtr rfl rfl) (hf.n77)).os ?_
  · exact rfl
  refine L1 (ps_pick_f rfl rfl).os ?_
  refine LW.nil ?_
  repeat (first | refine CW.seq ?_ | refine PW.then_ ?_ | refine CW.block ?_ | refine CW.skip ?_ | refine CW.ret ?_ | refine PW.then_ret ?_ | refine PW.block_ret ?_ | refine Cut.ret ?_ | refine Rnd.ret ?_ | refine PW.block_normal ?_ | refine CW.exit ?_ | refine PW.then_exit ?_ | refine PW.block_hit ?_ | refine PW.block_miss rfl ?_ | refine Cut.exit ?_ | refine Rnd.exit ?_)
  refine CW.cond_false rfl ?_
  repeat (first | refine CW.seq ?_ | refine PW.then_ ?_ | refine CW.block ?_ | refine CW.skip ?_ | refine CW.ret ?_ | refine PW.then_ret ?_ | refine PW.block_ret ?_ | refine Cut.ret ?_ | refine Rnd.ret ?_ | refine PW.block_normal ?_ | refine CW.exit ?_ | refine PW.then_exit ?_ | refine PW.block_hit ?_ | refine PW.block_miss rfl ?_ | refine Cut.exit ?_ | refine Rnd.exit ?_)
  refine CW.region ?_
  refine L1 (ps_move rfl).os ?_
  refine L1 (ps_mul rfl rfl).os ?_
  refine L1 (ps_move rfl).os ?_
  refine L1 (ps_add rfl rfl).os ?_
  refine L1 (ps_move rfl).os ?_
  refine L1 (ps_move rfl).os ?_
  refine L1 (ps_mul rfl rfl).os ?_
  refine L1 (ps_to (u := .int .u64 (un21 : Int)) (congrArg (Value.int .u64) hf.e93) (ps_sub rfl rfl)).os ?_
  refine L1 (ps_assign rfl).os ?_
  refine LW.nil ?_
  repeat (first | refine CW.seq ?_ | refine PW.then_ ?_ | refine CW.block ?_ | refine CW.skip ?_ | refine CW.ret ?_ | refine PW.then_ret ?_ | refine PW.block_ret ?_ | refine Cut.ret ?_ | refine Rnd.ret ?_ | refine PW.block_normal ?_ | refine CW.exit ?_ | refine PW.then_exit ?_ | refine PW.block_hit ?_ | refine PW.block_miss rfl ?_ | refine Cut.exit ?_ | refine Rnd.exit ?_)
  refine CW.region ?_
  refine L1 (ps_move rfl).os ?_
  refine L1 (ps_move rfl).os ?_
  refine L1 (ps_to (u := .int .u64 (q0 : Int)) (congrArg (Value.int .u64) hf.e96) (ps_quo_u64 rfl rfl hf.lt21 (by decide))).os ?_
  refine L1 (ps_assign rfl).os ?_
  refine LW.nil ?_
  repeat (first | refine CW.seq ?_ | refine PW.then_ ?_ | refine CW.block ?_ | refine CW.skip ?_ | refine CW.ret ?_ | refine PW.then_ret ?_ | refine PW.block_ret ?_ | refine Cut.ret ?_ | refine Rnd.ret ?_ | refine PW.block_normal ?_ | refine CW.exit ?_ | refine PW.then_exit ?_ | refine PW.block_hit ?_ | refine PW.block_miss rfl ?_ | refine Cut.exit ?_ | refine Rnd.exit ?_)
  refine CW.region ?_
  refine L1 (ps_move rfl).os ?_
  refine L1 (ps_move rfl).os ?_
  refine L1 (ps_move rfl).os ?_
  refine L1 (ps_mul rfl rfl).os ?_
  refine L1 (ps_to (u := .int .u64 (r0 : Int)) (congrArg (Value.int .u64) hf.e101) (ps_sub rfl rfl)).os ?_
  refine L1 (ps_assign rfl).os ?_
  refine LW.nil ?_
  repeat (first | refine CW.seq ?_ | refine PW.then_ ?_ | refine CW.block ?_ | refine CW.skip ?_ | refine CW.ret ?_ | refine PW.then_ret ?_ | refine PW.block_ret ?_ | refine Cut.ret ?_ | refine Rnd.ret ?_ | refine PW.block_normal ?_ | refine CW.exit ?_ | refine PW.then_exit ?_ | refine PW.block_hit ?_ | refine PW.block_miss rfl ?_ | refine Cut.exit ?_ | refine Rnd.exit ?_)
  refine CW.loopM (α := Unit) [16, 18, 102, 103, 104, 105, 106, 107, 108, 109, 110, 111, 112, 113, 114, 115, 116, 117, 118, 119, 120] (fun k _ => k = 0) (fun _ => [(18, .int .u64 (q0 : Int)), (16, .int .u64 (r0 : Int))]) (fun _ => F) 0 () rfl ⟨rfl, rfl, trivial⟩ (by repeat (first | exact Ent.refl _ | (apply Ent.cons; · repeat (first | exact pk_head _ _ | apply pk_tail)) | apply Ent.skip)) ?_
  rintro k _ g rfl
  repeat (first | refine CW.seq ?_ | refine PW.then_ ?_ | refine CW.block ?_ | refine CW.skip ?_ | refine CW.ret ?_ | refine PW.then_ret ?_ | refine PW.block_ret ?_ | refine Cut.ret ?_ | refine Rnd.ret ?_ | refine PW.block_normal ?_ | refine CW.exit ?_ | refine PW.then_exit ?_ | refine PW.block_hit ?_ | refine PW.block_miss rfl ?_ | refine Cut.exit ?_ | refine Rnd.exit ?_)
  refine CW.region ?_
  refine L1 (ps_move rfl).os ?_
  refine L1 (ps_f (ps_geq rfl rfl) (hf.n103)).os ?_
  refine L1 (ps_move rfl).os ?_
  refine LG1 ?_ (ps_move rfl).os ?_
  · exact rfl
  refine LG1 ?_ (ps_move rfl).os ?_
  · exact rfl
  refine LG1 ?_ (ps_mul rfl rfl).os ?_
  · exact rfl
  refine LG1 ?_ (ps_move rfl).os ?_
  · exact rfl
  refine LG1 ?_ (ps_mul rfl rfl).os ?_
  · exact rfl
  refine LG1 ?_ (ps_move rfl).os ?_
  · exact rfl
  refine LG1 ?_ (ps_add rfl rfl).os ?_
  · exact rfl
  refine LG1 ?_ (ps_f (ps_gtr rfl rfl) (hf.n112)).os ?_
  · exact rfl
  refine L1 (ps_pick_f rfl rfl).os ?_
  refine LW.nil ?_
  repeat (first | refine CW.seq ?_ | refine PW.then_ ?_ | refine CW.block ?_ | refine CW.skip ?_ | refine CW.ret ?_ | refine PW.then_ret ?_ | refine PW.block_ret ?_ | refine Cut.ret ?_ | refine Rnd.ret ?_ | refine PW.block_normal ?_ | refine CW.exit ?_ | refine PW.then_exit ?_ | refine PW.block_hit ?_ | refine PW.block_miss rfl ?_ | refine Cut.exit ?_ | refine Rnd.exit ?_)
  refine CW.cond_false rfl ?_
  repeat (first | refine CW.seq ?_ | refine PW.then_ ?_ | refine CW.block ?_ | refine CW.skip ?_ | refine CW.ret ?_ | refine PW.then_ret ?_ | refine PW.block_ret ?_ | refine Cut.ret ?_ | refine Rnd.ret ?_ | refine PW.block_normal ?_ | refine CW.exit ?_ | refine PW.then_exit ?_ | refine PW.block_hit ?_ | refine PW.block_miss rfl ?_ | refine Cut.exit ?_ | refine Rnd.exit ?_)
  refine CW.region ?_
  refine L1 (ps_move rfl).os ?_
  refine L1 (ps_mul rfl rfl).os ?_
  refine L1 (ps_move rfl).os ?_
  refine L1 (ps_to (u := .int .u64 ((q1 * 4294967296 + q0 : Nat) : Int)) (congrArg (Value.int .u64) hf.e124) (ps_add rfl rfl)).os ?_
  refine L1 (ps_move rfl).os ?_
  refine L1 (ps_mul rfl rfl).os ?_
  refine L1 (ps_move rfl).os ?_
  refine L1 (ps_add rfl rfl).os ?_
  refine L1 (ps_move rfl).os ?_
  refine L1 (ps_move rfl).os ?_
  refine L1 (ps_mul rfl rfl).os ?_
  refine L1 (ps_to (u := .int .u64 ((r0 * 4294967296 : Nat) : Int)) (congrArg (Value.int .u64) hf.e132) (ps_sub rfl rfl)).os ?_
  refine L1 (ps_move rfl).os ?_
  refine L1 (ps_shrN (r0 * 4294967296) 60 rfl rfl rfl (by decide)).os ?_
  refine L1 (ps_assign rfl).os ?_
  refine L1 (ps_assign rfl).os ?_
  refine LW.nil ?_
  repeat (first | refine CW.seq ?_ | refine PW.then_ ?_ | refine CW.block ?_ | refine CW.skip ?_ | refine CW.ret ?_ | refine PW.then_ret ?_ | refine PW.block_ret ?_ | refine Cut.ret ?_ | refine Rnd.ret ?_ | refine PW.block_normal ?_ | refine CW.exit ?_ | refine PW.then_exit ?_ | refine PW.block_hit ?_ | refine PW.block_miss rfl ?_ | refine Cut.exit ?_ | refine Rnd.exit ?_)
  exact Fin.ret2 (v1 := .int .u64 ((q1 * 4294967296 + q0 : Nat) : Int)) (v2 := .int .u64 ((r0 * 4294967296 / 2 ^ 60 : Nat) : Int)) rfl [] rfl rfl ⟨⟨_, _, rfl, hquo, hrem⟩, rfl⟩ (by repeat (first | exact Ent.refl _ | (apply Ent.cons; · repeat (first | exact pk_head _ _ | apply pk_tail)) | apply Ent.skip))

/-! ## Print -/
def dgt (d : Nat) : UInt8 := UInt8.ofNat (48 + d % 10)
def dgF : Nat → Nat → List UInt8 → List UInt8
  | 0, _, acc => acc
  | k + 1, v, acc => if v = 0 then acc else dgF k (v / 10) (dgt v :: acc)
def digs (v : Nat) : List UInt8 := if v = 0 then [48] else dgF 39 v []
theorem dgF_zero (k : Nat) (acc : List UInt8) : dgF k 0 acc = acc := by cases k <;> rfl
theorem num_tenth (v hi lo q : Nat) (hv : v / 18446744073709551616 = hi) (hl : v % 18446744073709551616 = lo) (hq : q = (hi % 10 * 18446744073709551616 + lo) / 10) : hi / 10 * 18446744073709551616 + q = v / 10 ∧ q < 18446744073709551616 := by omega
theorem num_last (v hi lo d : Nat) (hv : v / 18446744073709551616 = hi) (hl : v % 18446744073709551616 = lo) (hd : d = (hi % 10 * 18446744073709551616 + lo) % 10) : d = v % 10 := by omega
theorem dgt_val (d v : Nat) (hd : d = v % 10) : IntKind.u8.wrap (48 + (d : Int)) = ((dgt v).toNat : Int) := by
  unfold dgt
  rw [wrap_u8, UInt8.toNat_ofNat']
  omega
theorem pow39 : M128 ≤ 10 ^ 39 := by decide
theorem Print_spec (v : Nat) (hv : v < M128) : FSpec Try.prog 32 [.agg (nc v).toArray] [] (fun r As => r = strV (digs v) ∧ As = []) := by
  have h39 : v < 10 ^ 39 := Nat.lt_of_lt_of_le hv pow39
  refine FSpec.intro Try.func32 rfl 38 Try.ntmps32 (Nat.le_of_ble_eq_true rfl) fun w0 F => ?_
  show CW _ _ _ _ _ _ (F)
  repeat (first | refine CW.seq ?_ | refine PW.then_ ?_ | refine CW.block ?_ | refine CW.skip ?_ | refine CW.ret ?_ | refine PW.then_ret ?_ | refine PW.block_ret ?_ | refine Cut.ret ?_ | refine Rnd.ret ?_ | refine PW.block_normal ?_ | refine CW.exit ?_ | refine PW.then_exit ?_ | refine PW.block_hit ?_ | refine PW.block_miss rfl ?_ | refine Cut.exit ?_ | refine Rnd.exit ?_)
  refine CW.region ?_
  refine LE (os_box rfl (by rfl)) ?_
  rintro _ _ ⟨b1, rfl, rfl⟩
  refine L1 (ps_assign rfl).os ?_
  refine LW.nil ?_
  repeat (first | refine CW.seq ?_ | refine PW.then_ ?_ | refine CW.block ?_ | refine CW.skip ?_ | refine CW.ret ?_ | refine PW.then_ret ?_ | refine PW.block_ret ?_ | refine Cut.ret ?_ | refine Rnd.ret ?_ | refine PW.block_normal ?_ | refine CW.exit ?_ | refine PW.then_exit ?_ | refine PW.block_hit ?_ | refine PW.block_miss rfl ?_ | refine Cut.exit ?_ | refine Rnd.exit ?_)
  refine CW.region ?_
  refine L1 (ps_assign rfl).os ?_
  refine LW.nil ?_
  refine J.ent (Ent.slNil 5 1 _) ?_
  repeat (first | refine CW.seq ?_ | refine PW.then_ ?_ | refine CW.block ?_ | refine CW.skip ?_ | refine CW.ret ?_ | refine PW.then_ret ?_ | refine PW.block_ret ?_ | refine Cut.ret ?_ | refine Rnd.ret ?_ | refine PW.block_normal ?_ | refine CW.exit ?_ | refine PW.then_exit ?_ | refine PW.block_hit ?_ | refine PW.block_miss rfl ?_ | refine Cut.exit ?_ | refine Rnd.exit ?_)
  refine CW.loopM (α := Nat × List UInt8 × Option Addr × Nat) [3, 4, 5, 6, 7, 8, 9, 10, 11, 12, 13, 14, 15, 16, 17, 18, 19, 20, 21, 22, 23, 24, 25, 26, 27, 28, 29, 30, 31, 32] (fun k s => k ≤ 39 ∧ s.1 < 10 ^ k ∧ s.2.1.length + k = 39 ∧ s.1 < M128 ∧ dgF k s.1 s.2.1 = dgF 39 v [] ∧ (s.2.1 = [] → s.1 = v)) (fun s => [(3, .slice s.2.2.1 s.2.1.length s.2.2.2)])
    (fun s => cb b1 26 (nc s.1) :: slOwn 5 1 (.slice s.2.2.1 s.2.1.length s.2.2.2) s.2.1.length (bv s.2.1) :: F) 39 (v, [], none, 0) ⟨Nat.le_refl _, h39, rfl, hv, rfl, fun _ => rfl⟩ ⟨rfl, trivial⟩ (by repeat (first | exact Ent.refl _ | (apply Ent.cons; · repeat (first | exact pk_head _ _ | apply pk_tail)) | apply Ent.skip)) ?_
  rintro k ⟨x, out, q, d⟩ g ⟨hk, hx, hl, hxm, hdg, hnil⟩
  dsimp only at hk hx hl hxm hdg hnil ⊢
  repeat (first | refine CW.seq ?_ | refine PW.then_ ?_ | refine CW.block ?_ | refine CW.skip ?_ | refine CW.ret ?_ | refine PW.then_ret ?_ | refine PW.block_ret ?_ | refine Cut.ret ?_ | refine Rnd.ret ?_ | refine PW.block_normal ?_ | refine CW.exit ?_ | refine PW.then_exit ?_ | refine PW.block_hit ?_ | refine PW.block_miss rfl ?_ | refine Cut.exit ?_ | refine Rnd.exit ?_)
  refine slOwn_info (Bs := _) (by repeat (first | exact pk_head _ _ | apply pk_tail)) fun hmd hdm hqs => ?_
  by_cases h0 : x = 0
  · subst h0
    rw [dgF_zero] at hdg
    refine CW.region ?_
    refine L1 (os_loadAll (by repeat (first | exact pk_head _ _ | apply pk_tail)) T.ag26 (by exact T.sz26) rfl) ?_
    refine L1 (ps_build (by rfl) (T.bd26)).os ?_
    refine L1 (ps_f (ps_num_neq 0 0 T.eq26 rfl rfl) (fun h => h rfl)).os ?_
    refine LW.nil ?_
    repeat (first | refine CW.seq ?_ | refine PW.then_ ?_ | refine CW.block ?_ | refine CW.skip ?_ | refine CW.ret ?_ | refine PW.then_ret ?_ | refine PW.block_ret ?_ | refine Cut.ret ?_ | refine Rnd.ret ?_ | refine PW.block_normal ?_ | refine CW.exit ?_ | refine PW.then_exit ?_ | refine PW.block_hit ?_ | refine PW.block_miss rfl ?_ | refine Cut.exit ?_ | refine Rnd.exit ?_)
    refine CW.cond_false rfl ?_
    repeat (first | refine CW.seq ?_ | refine PW.then_ ?_ | refine CW.block ?_ | refine CW.skip ?_ | refine CW.ret ?_ | refine PW.then_ret ?_ | refine PW.block_ret ?_ | refine Cut.ret ?_ | refine Rnd.ret ?_ | refine PW.block_normal ?_ | refine CW.exit ?_ | refine PW.then_exit ?_ | refine PW.block_hit ?_ | refine PW.block_miss rfl ?_ | refine Cut.exit ?_ | refine Rnd.exit ?_)
    by_cases hout : out = []
    · subst hout
      have hv0 : v = 0 := (hnil rfl).symm
      have hd0 : digs v = [48] := by unfold digs; rw [if_pos hv0]
      refine CW.region ?_
      refine L1 (ps_move rfl).os ?_
      refine L1 (ps_len_sl T.un32 rfl).os ?_
      refine L1 (ps_t (ps_eql rfl rfl) (rfl)).os ?_
      refine LW.nil ?_
      repeat (first | refine CW.seq ?_ | refine PW.then_ ?_ | refine CW.block ?_ | refine CW.skip ?_ | refine CW.ret ?_ | refine PW.then_ret ?_ | refine PW.block_ret ?_ | refine Cut.ret ?_ | refine Rnd.ret ?_ | refine PW.block_normal ?_ | refine CW.exit ?_ | refine PW.then_exit ?_ | refine PW.block_hit ?_ | refine PW.block_miss rfl ?_ | refine Cut.exit ?_ | refine Rnd.exit ?_)
      refine CW.cond_true rfl ?_
      repeat (first | refine CW.seq ?_ | refine PW.then_ ?_ | refine CW.block ?_ | refine CW.skip ?_ | refine CW.ret ?_ | refine PW.then_ret ?_ | refine PW.block_ret ?_ | refine Cut.ret ?_ | refine Rnd.ret ?_ | refine PW.block_normal ?_ | refine CW.exit ?_ | refine PW.then_exit ?_ | refine PW.block_hit ?_ | refine PW.block_miss rfl ?_ | refine Cut.exit ?_ | refine Rnd.exit ?_)
      refine CW.region ?_
      refine L1 (ps_assign rfl).os ?_
      refine LW.nil ?_
      repeat (first | refine CW.seq ?_ | refine PW.then_ ?_ | refine CW.block ?_ | refine CW.skip ?_ | refine CW.ret ?_ | refine PW.then_ret ?_ | refine PW.block_ret ?_ | refine Cut.ret ?_ | refine Rnd.ret ?_ | refine PW.block_normal ?_ | refine CW.exit ?_ | refine PW.then_exit ?_ | refine PW.block_hit ?_ | refine PW.block_miss rfl ?_ | refine Cut.exit ?_ | refine Rnd.exit ?_)
      exact Fin.ret1 (v := strV [48]) rfl [] rfl ⟨by rw [hd0], rfl⟩ (by repeat (first | exact Ent.refl _ | (apply Ent.cons; · repeat (first | exact pk_head _ _ | apply pk_tail)) | apply Ent.skip))
    · have hv0 : v ≠ 0 := by
        rintro rfl
        rw [dgF_zero] at hdg
        exact hout hdg
      have hd0 : digs v = out := by unfold digs; rw [if_neg hv0, hdg]
      have hlen : ¬ (out.length : Int) = 0 := by
        have := List.length_pos_iff.2 hout; omega
      refine CW.region ?_
      refine L1 (ps_move rfl).os ?_
      refine L1 (ps_len_sl T.un32 rfl).os ?_
      refine L1 (ps_f (ps_eql rfl rfl) (hlen)).os ?_
      refine LW.nil ?_
      repeat (first | refine CW.seq ?_ | refine PW.then_ ?_ | refine CW.block ?_ | refine CW.skip ?_ | refine CW.ret ?_ | refine PW.then_ret ?_ | refine PW.block_ret ?_ | refine Cut.ret ?_ | refine Rnd.ret ?_ | refine PW.block_normal ?_ | refine CW.exit ?_ | refine PW.then_exit ?_ | refine PW.block_hit ?_ | refine PW.block_miss rfl ?_ | refine Cut.exit ?_ | refine Rnd.exit ?_)
      refine CW.cond_false rfl ?_
      repeat (first | refine CW.seq ?_ | refine PW.then_ ?_ | refine CW.block ?_ | refine CW.skip ?_ | refine CW.ret ?_ | refine PW.then_ret ?_ | refine PW.block_ret ?_ | refine Cut.ret ?_ | refine Rnd.ret ?_ | refine PW.block_normal ?_ | refine CW.exit ?_ | refine PW.then_exit ?_ | refine PW.block_hit ?_ | refine PW.block_miss rfl ?_ | refine Cut.exit ?_ | refine Rnd.exit ?_)
      refine CW.region ?_
      refine L1 (ps_move rfl).os ?_
      refine L1 (os_str out T.un32 T.un5 T.un9 rfl rfl ((ByR.own rfl hmd hqs).src (by repeat (first | exact pk_head _ _ | apply pk_tail)))) ?_
      refine L1 (ps_assign rfl).os ?_
      refine LW.nil ?_
      repeat (first | refine CW.seq ?_ | refine PW.then_ ?_ | refine CW.block ?_ | refine CW.skip ?_ | refine CW.ret ?_ | refine PW.then_ret ?_ | refine PW.block_ret ?_ | refine Cut.ret ?_ | refine Rnd.ret ?_ | refine PW.block_normal ?_ | refine CW.exit ?_ | refine PW.then_exit ?_ | refine PW.block_hit ?_ | refine PW.block_miss rfl ?_ | refine Cut.exit ?_ | refine Rnd.exit ?_)
      exact Fin.ret1 (v := strV out) rfl [] rfl ⟨by rw [hd0], rfl⟩ (by repeat (first | exact Ent.refl _ | (apply Ent.cons; · repeat (first | exact pk_head _ _ | apply pk_tail)) | apply Ent.skip))
  · obtain ⟨k, rfl⟩ : ∃ m, k = m + 1 := ⟨k - 1, by
      rcases Nat.eq_zero_or_pos k with h | h
      · subst h; simp at hx; exact absurd hx h0
      · omega⟩
    have hb1 : 0 ≤ ((x / 18446744073709551616 : Nat) : Int) ∧ ((x / 18446744073709551616 : Nat) : Int) < 18446744073709551616 := by have hM := M128_eq; omega
    have hdgs : dgF k (x / 10) (dgt x :: out) = dgF 39 v [] := by
      rw [← hdg]; conv => rhs; unfold dgF
      rw [if_neg h0]
    have hx10 : x / 10 < 10 ^ k := by rw [Nat.div_lt_iff_lt_mul (by decide)]; rw [Nat.pow_succ] at hx; exact hx
    refine CW.region ?_
    refine L1 (os_loadAll (by repeat (first | exact pk_head _ _ | apply pk_tail)) T.ag26 (by exact T.sz26) rfl) ?_
    refine L1 (ps_build (by rfl) (T.bd26)).os ?_
    refine L1 (ps_t (ps_num_neq x 0 T.eq26 rfl rfl) h0).os ?_
    refine LW.nil ?_
    repeat (first | refine CW.seq ?_ | refine PW.then_ ?_ | refine CW.block ?_ | refine CW.skip ?_ | refine CW.ret ?_ | refine PW.then_ret ?_ | refine PW.block_ret ?_ | refine Cut.ret ?_ | refine Rnd.ret ?_ | refine PW.block_normal ?_ | refine CW.exit ?_ | refine PW.then_exit ?_ | refine PW.block_hit ?_ | refine PW.block_miss rfl ?_ | refine Cut.exit ?_ | refine Rnd.exit ?_)
    refine CW.cond_true rfl ?_
    repeat (first | refine CW.seq ?_ | refine PW.then_ ?_ | refine CW.block ?_ | refine CW.skip ?_ | refine CW.ret ?_ | refine PW.then_ret ?_ | refine PW.block_ret ?_ | refine Cut.ret ?_ | refine Rnd.ret ?_ | refine PW.block_normal ?_ | refine CW.exit ?_ | refine PW.then_exit ?_ | refine PW.block_hit ?_ | refine PW.block_miss rfl ?_ | refine Cut.exit ?_ | refine Rnd.exit ?_)
    refine CW.drawH [cb b1 26 (nc x)] [] T.mixed ?_
    refine H_take (i := 0) (some 11) rfl rfl (by kernel_rfl) (by kernel_rfl) (by kernel_rfl) rfl (ps_fa T.fa26_0 (by decide) rfl).pl (by kernel_rfl) (pkc (by repeat (first | exact pk_head _ _ | apply pk_tail)) (pkn _)) ?_
    refine H_take (i := 1) (some 12) rfl rfl (by kernel_rfl) (by kernel_rfl) (by kernel_rfl) rfl (pl_load1 (by repeat (first | exact pk_head _ _ | apply pk_tail)) T.ag24 rfl (by rfl)) (by kernel_rfl) (pkc (by repeat (first | exact pk_head _ _ | apply pk_tail)) (pkn _)) ?_
    refine H_take (i := 2) (some 13) rfl rfl (by kernel_rfl) (by kernel_rfl) (by kernel_rfl) rfl (ps_to (u := .int .u64 ((x / 18446744073709551616 / 10 : Nat) : Int)) (by rfl) (ps_quo_u64 rfl rfl hb1 (by decide))).pl (by kernel_rfl) (pkc (by repeat (first | exact pk_head _ _ | apply pk_tail)) (pkn _)) ?_
    refine H_take (i := 3) (some 14) rfl rfl (by kernel_rfl) (by kernel_rfl) (by kernel_rfl) rfl (ps_fa T.fa26_0 (by decide) rfl).pl (by kernel_rfl) (pkc (by repeat (first | exact pk_head _ _ | apply pk_tail)) (pkn _)) ?_
    refine H_take (i := 4) (some 15) rfl rfl (by kernel_rfl) (by kernel_rfl) (by kernel_rfl) rfl (pl_load1 (by repeat (first | exact pk_head _ _ | apply pk_tail)) T.ag24 rfl (by rfl)) (by kernel_rfl) (pkc (by repeat (first | exact pk_head _ _ | apply pk_tail)) (pkn _)) ?_
    refine H_take (i := 5) (some 16) rfl rfl (by kernel_rfl) (by kernel_rfl) (by kernel_rfl) rfl (ps_to (u := .int .u64 ((x / 18446744073709551616 % 10 : Nat) : Int)) (by rfl) (ps_rem_pos rfl rfl hb1.1 (by decide))).pl (by kernel_rfl) (pkc (by repeat (first | exact pk_head _ _ | apply pk_tail)) (pkn _)) ?_
    refine H_take (i := 6) (some 4) rfl rfl (by kernel_rfl) (by kernel_rfl) (by kernel_rfl) rfl (ps_assign rfl).pl (by kernel_rfl) (pkc (by repeat (first | exact pk_head _ _ | apply pk_tail)) (pkn _)) ?_
    refine H_take (i := 7) (some 5) rfl rfl (by kernel_rfl) (by kernel_rfl) (by kernel_rfl) rfl (ps_assign rfl).pl (by kernel_rfl) (pkc (by repeat (first | exact pk_head _ _ | apply pk_tail)) (pkn _)) ?_
    refine H_done (by kernel_rfl) ?_
    repeat (first | refine CW.seq ?_ | refine PW.then_ ?_ | refine CW.block ?_ | refine CW.skip ?_ | refine CW.ret ?_ | refine PW.then_ret ?_ | refine PW.block_ret ?_ | refine Cut.ret ?_ | refine Rnd.ret ?_ | refine PW.block_normal ?_ | refine CW.exit ?_ | refine PW.then_exit ?_ | refine PW.block_hit ?_ | refine PW.block_miss rfl ?_ | refine Cut.exit ?_ | refine Rnd.exit ?_)
    refine CW.region ?_
    refine L1 (ps_move rfl).os ?_
    refine L1 (ps_fa T.fa26_1 (by decide) rfl).os ?_
    refine L1 (os_load1 (by repeat (first | exact pk_head _ _ | apply pk_tail)) T.ag24 rfl (by rfl)) ?_
    refine LE (os_call (pre := []) (Div64_10 (x / 18446744073709551616 % 10) (x % 18446744073709551616) (Nat.mod_lt _ (by decide)) (Nat.mod_lt _ (by decide))) Try.func39 (by decide +kernel) rfl rfl (List.Perm.refl _)) ?_
    rintro _ _ ⟨_, ⟨⟨qq, dd, rfl, hqq, hdd⟩, rfl⟩, rfl⟩
    refine L1 (ps_move rfl).os ?_
    refine L1 (ps_extract rfl rfl).os ?_
    refine L1 (ps_extract rfl rfl).os ?_
    refine L1 (ps_assign rfl).os ?_
    refine L1 (ps_assign rfl).os ?_
    refine LW.nil ?_
    have hdd2 := num_last x _ _ dd rfl rfl hdd
    obtain ⟨ht1, ht2⟩ := num_tenth x _ _ qq rfl rfl hqq
    have hcs : [Value.int .u64 ((x / 18446744073709551616 / 10 : Nat) : Int), .int .u64 (qq : Int)] = nc (x / 10) := by rw [← ht1, nc_of _ _ ht2]
    repeat (first | refine CW.seq ?_ | refine PW.then_ ?_ | refine CW.block ?_ | refine CW.skip ?_ | refine CW.ret ?_ | refine PW.then_ret ?_ | refine PW.block_ret ?_ | refine Cut.ret ?_ | refine Rnd.ret ?_ | refine PW.block_normal ?_ | refine CW.exit ?_ | refine PW.then_exit ?_ | refine PW.block_hit ?_ | refine PW.block_miss rfl ?_ | refine Cut.exit ?_ | refine Rnd.exit ?_)
    refine CW.region ?_
    refine L1 (ps_move rfl).os ?_
    refine L1 (ps_add_u64 rfl rfl (by omega) (by omega)).os ?_
    refine L1 (ps_to (u := .int .u8 ((dgt x).toNat : Int)) (congrArg (Value.int .u8) (dgt_val dd x hdd2)) (ps_conv (by kernel_rfl) T.un5 rfl)).os ?_
    refine LE (os_bslv (vs := bv [dgt x]) T.un32 T.ti5 (by rfl) (by rfl) rfl (bv_one _) (by decide) (by decide)) ?_
    rintro _ _ ⟨b27, rfl, rfl⟩
    refine J.ent (Ent.slMk (m := 1) (cap := 1) (cur := bv [dgt x]) (size := 1) (by decide) (by decide) rfl rfl _) ?_
    refine L1 (ps_move rfl).os ?_
    refine LE (os_append (news := bv out) (by repeat (first | exact pk_head _ _ | apply pk_tail)) T.un32 T.ti5 (by rfl) (by decide) rfl rfl (by simp) ((ByR.own rfl hmd hqs).src (by repeat (first | exact pk_head _ _ | apply pk_tail))) (bv_one _) (by unfold maxLen; omega) (by omega)) ?_
    rintro _ _ ⟨q', d', rfl, rfl, hq'⟩
    refine L1 (ps_assign rfl).os ?_
    refine LW.nil ?_
    repeat (first | refine CW.seq ?_ | refine PW.then_ ?_ | refine CW.block ?_ | refine CW.skip ?_ | refine CW.ret ?_ | refine PW.then_ret ?_ | refine PW.block_ret ?_ | refine Cut.ret ?_ | refine Rnd.ret ?_ | refine PW.block_normal ?_ | refine CW.exit ?_ | refine PW.then_exit ?_ | refine PW.block_hit ?_ | refine PW.block_miss rfl ?_ | refine Cut.exit ?_ | refine Rnd.exit ?_)
    refine CW.region ?_
    refine L1 (ps_move rfl).os ?_
    refine L1 (ps_move rfl).os ?_
    refine L1 (ps_build (by rfl) (T.bd26_0_1 _ _)).os ?_
    refine L1 (os_cb hcs <| os_storeAll (b := b1) (by repeat (first | exact pk_head _ _ | apply pk_tail)) (by exact T.sz26) rfl rfl (by simp [Value.oneCell']) (by rfl)) ?_
    refine LW.nil ?_
    repeat (first | refine CW.seq ?_ | refine PW.then_ ?_ | refine CW.block ?_ | refine CW.skip ?_ | refine CW.ret ?_ | refine PW.then_ret ?_ | refine PW.block_ret ?_ | refine Cut.ret ?_ | refine Rnd.ret ?_ | refine PW.block_normal ?_ | refine CW.exit ?_ | refine PW.then_exit ?_ | refine PW.block_hit ?_ | refine PW.block_miss rfl ?_ | refine Cut.exit ?_ | refine Rnd.exit ?_)
    have hl1 : 1 + out.length = (dgt x :: out).length := by simp; omega
    refine Meet.round k (x / 10, dgt x :: out, q', d') (by omega) ⟨by omega, hx10, by simp; omega, Nat.lt_of_le_of_lt (Nat.div_le_self _ _) hxm, hdgs, by simp⟩ (by repeat (first | (with_reducible exact Ag.refl _ _) | (with_reducible apply Ag.pu0) | ((with_reducible refine Ag.pu _ ?_ ?_); · exact rfl) | ((with_reducible refine Ag.mix ?_ ?_); · exact rfl) | ((with_reducible refine Ag.pus ?_ ?_); · exact rfl))) ⟨congrArg (fun n => Value.slice q' n d') hl1, trivial⟩ ?_
    dsimp only
    rw [← hl1, show bv (dgt x :: out) = bv [dgt x] ++ bv out from rfl]
    exact (by repeat (first | exact Ent.refl _ | (apply Ent.cons; · repeat (first | exact pk_head _ _ | apply pk_tail)) | apply Ent.skip))
end Go.Proofs.Ytpcjjchanjdkaaa
