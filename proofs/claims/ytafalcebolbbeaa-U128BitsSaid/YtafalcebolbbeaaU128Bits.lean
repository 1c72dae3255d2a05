/- The law U128Bits: a number is the sum of its bits: it answers true for every number (no condition). -/
import Derived.Test.YtafalcebolbbeaaUxFit
import Derived.Test.YtafalcebolbbeaaRows
namespace Go.Proofs.Ytafalcebolbbeaa
open Go Go.SL
set_option linter.unusedVariables false
set_option linter.unusedSimpArgs false

theorem top_succ (a i : Nat) (hi : i < 128) : a / 2 ^ (128 - (i + 1)) = 2 * (a / 2 ^ (128 - i)) + a / 2 ^ (127 - i) % 2 := by
  have e : 128 - i = 127 - i + 1 := by omega
  rw [show 128 - (i + 1) = 127 - i by omega, e, Nat.pow_succ, ← Nat.div_div_eq_div_mul]
  omega
theorem top_lt (a i : Nat) (ha : a < M128) : a / 2 ^ i < M128 := Nat.lt_of_le_of_lt (Nat.div_le_self _ _) ha
theorem bit_of (a i : Nat) (hi : i < 128) : bitN a (i : Int) = ((a / 2 ^ (127 - i) % 2 : Nat) : Int) := by
  unfold bitN
  rw [if_neg (by omega), show (127 - (i : Int)).toNat = 127 - i by omega]
theorem U128Bits_law (W : World) (cs0 : List Value) (a : Nat) (e0 : cs0 = nc a) (ha : a < M128) : LawOf Try.prog 6 [.agg cs0.toArray] W := by
  subst e0
  refine FSpec.intro Try.func6 rfl 39 Try.ntmps6 (Nat.le_of_ble_eq_true rfl) fun w0 F => ?_
  show CW _ _ _ _ _ _ (_ :: F)
  repeat (first | refine CW.seq ?_ | refine PW.then_ ?_ | refine CW.block ?_ | refine CW.skip ?_ | refine CW.ret ?_ | refine PW.then_ret ?_ | refine PW.block_ret ?_ | refine Cut.ret ?_ | refine Rnd.ret ?_ | refine PW.block_normal ?_ | refine CW.exit ?_ | refine PW.then_exit ?_ | refine PW.block_hit ?_ | refine PW.block_miss rfl ?_ | refine Cut.exit ?_ | refine Rnd.exit ?_)
  refine CW.region ?_
  refine LE (os_box rfl (by rfl)) ?_
  rintro _ _ ⟨b1, rfl, rfl⟩
  refine L1 (ps_assign rfl).os ?_
  refine LW.nil ?_
  repeat (first | refine CW.seq ?_ | refine PW.then_ ?_ | refine CW.block ?_ | refine CW.skip ?_ | refine CW.ret ?_ | refine PW.then_ret ?_ | refine PW.block_ret ?_ | refine Cut.ret ?_ | refine Rnd.ret ?_ | refine PW.block_normal ?_ | refine CW.exit ?_ | refine PW.then_exit ?_ | refine PW.block_hit ?_ | refine PW.block_miss rfl ?_ | refine Cut.exit ?_ | refine Rnd.exit ?_)
  refine CW.region ?_
  refine L1 (os_call0 fit_spec Try.func13 (by decide +kernel) rfl rfl) ?_
  refine L1 (ps_not rfl).os ?_
  refine LW.nil ?_
  repeat (first | refine CW.seq ?_ | refine PW.then_ ?_ | refine CW.block ?_ | refine CW.skip ?_ | refine CW.ret ?_ | refine PW.then_ret ?_ | refine PW.block_ret ?_ | refine Cut.ret ?_ | refine Rnd.ret ?_ | refine PW.block_normal ?_ | refine CW.exit ?_ | refine PW.then_exit ?_ | refine PW.block_hit ?_ | refine PW.block_miss rfl ?_ | refine Cut.exit ?_ | refine Rnd.exit ?_)
  refine CW.cond_false rfl ?_
  repeat (first | refine CW.seq ?_ | refine PW.then_ ?_ | refine CW.block ?_ | refine CW.skip ?_ | refine CW.ret ?_ | refine PW.then_ret ?_ | refine PW.block_ret ?_ | refine Cut.ret ?_ | refine Rnd.ret ?_ | refine PW.block_normal ?_ | refine CW.exit ?_ | refine PW.then_exit ?_ | refine PW.block_hit ?_ | refine PW.block_miss rfl ?_ | refine Cut.exit ?_ | refine Rnd.exit ?_)
  refine CW.region ?_
  refine LE (os_alloc T.ti27) ?_
  rintro _ _ ⟨b3, rfl, rfl⟩
  refine LW.nil ?_
  repeat (first | refine CW.seq ?_ | refine PW.then_ ?_ | refine CW.block ?_ | refine CW.skip ?_ | refine CW.ret ?_ | refine PW.then_ret ?_ | refine PW.block_ret ?_ | refine Cut.ret ?_ | refine Rnd.ret ?_ | refine PW.block_normal ?_ | refine CW.exit ?_ | refine PW.then_exit ?_ | refine PW.block_hit ?_ | refine PW.block_miss rfl ?_ | refine Cut.exit ?_ | refine Rnd.exit ?_)
  refine CW.region ?_
  refine L1 (os_call0 (Of_spec 1 (by decide)) Try.func17 (by decide +kernel) rfl rfl) ?_
  refine LE (os_alloc T.ti27) ?_
  rintro _ _ ⟨b4, rfl, rfl⟩
  refine L1 (os_storeAll (by repeat (first | exact pk_head _ _ | apply pk_tail)) (by exact T.sz27) rfl rfl (by first | exact nc_one _ | simp [Value.oneCell']) (by rfl)) ?_
  refine LW.nil ?_
  repeat (first | refine CW.seq ?_ | refine PW.then_ ?_ | refine CW.block ?_ | refine CW.skip ?_ | refine CW.ret ?_ | refine PW.then_ret ?_ | refine PW.block_ret ?_ | refine Cut.ret ?_ | refine Rnd.ret ?_ | refine PW.block_normal ?_ | refine CW.exit ?_ | refine PW.then_exit ?_ | refine PW.block_hit ?_ | refine PW.block_miss rfl ?_ | refine Cut.exit ?_ | refine Rnd.exit ?_)
  refine CW.region ?_
  refine L1 (ps_move rfl).os ?_
  refine LW.nil ?_
  repeat (first | refine CW.seq ?_ | refine PW.then_ ?_ | refine CW.block ?_ | refine CW.skip ?_ | refine CW.ret ?_ | refine PW.then_ret ?_ | refine PW.block_ret ?_ | refine Cut.ret ?_ | refine Rnd.ret ?_ | refine PW.block_normal ?_ | refine CW.exit ?_ | refine PW.then_exit ?_ | refine PW.block_hit ?_ | refine PW.block_miss rfl ?_ | refine Cut.exit ?_ | refine Rnd.exit ?_)
  have hz : nc (a / 2 ^ (128 - 0)) = [.int .u64 0, .int .u64 0] := by
    rw [show a / 2 ^ (128 - 0) = 0 from Nat.div_eq_of_lt ha]
    exact nc_small (l := 0) (by decide)
  refine CW.loopM (α := Nat) [2, 5, 6, 10, 11, 12, 13, 14, 15, 16, 17, 18, 19, 20, 21, 22, 23, 24, 25, 26, 27, 28, 29, 30, 31, 32, 33, 34, 35] (fun k i => i ≤ 128 ∧ k = 128 - i) (fun i => [(10, .int .i64 i)])
    (fun i => cb b3 27 (nc (a / 2 ^ (128 - i))) :: cb b4 27 (nc 1) :: cb b1 27 (nc a) :: bag (blks W) :: F) 128 0 ⟨Nat.zero_le _, rfl⟩ ⟨rfl, trivial⟩ (by rw [hz]; exact (by repeat (first | exact Ent.refl _ | (apply Ent.cons; · repeat (first | exact pk_head _ _ | apply pk_tail)) | apply Ent.skip))) ?_
  rintro k i g ⟨hi, hk⟩
  repeat (first | refine CW.seq ?_ | refine PW.then_ ?_ | refine CW.block ?_ | refine CW.skip ?_ | refine CW.ret ?_ | refine PW.then_ret ?_ | refine PW.block_ret ?_ | refine Cut.ret ?_ | refine Rnd.ret ?_ | refine PW.block_normal ?_ | refine CW.exit ?_ | refine PW.then_exit ?_ | refine PW.block_hit ?_ | refine PW.block_miss rfl ?_ | refine Cut.exit ?_ | refine Rnd.exit ?_)
  by_cases hlt : i < 128
  · have hsx := top_succ a i hlt
    have h1 := top_lt a (128 - i) ha
    have h2 := top_lt a (128 - (i + 1)) ha
    have hbit := Bit_spec a ha (i : Int) (by omega)
    rw [bit_of a i hlt] at hbit
    rw [hsx] at h2
    have hc2 : a / 2 ^ (127 - i) % 2 < 2 := Nat.mod_lt _ (by decide)
    generalize a / 2 ^ (127 - i) % 2 = c at hsx h2 hbit hc2
    generalize a / 2 ^ (128 - i) = s at hsx h1 h2
    have s1 : addN [s, s] = (2 * s, true) := by unfold addN; rw [if_pos (by simp; omega)]; simp; omega
    have m1 : ∀ x ∈ [s, s], x < M128 := by simp [h1]
    refine CW.region ?_
    refine L1 (ps_t (ps_lss rfl rfl) (by omega)).os ?_
    refine LW.nil ?_
    repeat (first | refine CW.seq ?_ | refine PW.then_ ?_ | refine CW.block ?_ | refine CW.skip ?_ | refine CW.ret ?_ | refine PW.then_ret ?_ | refine PW.block_ret ?_ | refine Cut.ret ?_ | refine Rnd.ret ?_ | refine PW.block_normal ?_ | refine CW.exit ?_ | refine PW.then_exit ?_ | refine PW.block_hit ?_ | refine PW.block_miss rfl ?_ | refine Cut.exit ?_ | refine Rnd.exit ?_)
    refine CW.cond_true rfl ?_
    repeat (first | refine CW.seq ?_ | refine PW.then_ ?_ | refine CW.block ?_ | refine CW.skip ?_ | refine CW.ret ?_ | refine PW.then_ret ?_ | refine PW.block_ret ?_ | refine Cut.ret ?_ | refine Rnd.ret ?_ | refine PW.block_normal ?_ | refine CW.exit ?_ | refine PW.then_exit ?_ | refine PW.block_hit ?_ | refine PW.block_miss rfl ?_ | refine Cut.exit ?_ | refine Rnd.exit ?_)
    refine CW.region ?_
    refine L1 (ps_move rfl).os ?_
    refine L1 (ps_assign rfl).os ?_
    refine LW.nil ?_
    repeat (first | refine CW.seq ?_ | refine PW.then_ ?_ | refine CW.block ?_ | refine CW.skip ?_ | refine CW.ret ?_ | refine PW.then_ret ?_ | refine PW.block_ret ?_ | refine Cut.ret ?_ | refine Rnd.ret ?_ | refine PW.block_normal ?_ | refine CW.exit ?_ | refine PW.then_exit ?_ | refine PW.block_hit ?_ | refine PW.block_miss rfl ?_ | refine Cut.exit ?_ | refine Rnd.exit ?_)
    refine CW.region ?_
    refine L1 (ps_assign rfl).os ?_
    refine LW.nil ?_
    repeat (first | refine CW.seq ?_ | refine PW.then_ ?_ | refine CW.block ?_ | refine CW.skip ?_ | refine CW.ret ?_ | refine PW.then_ret ?_ | refine PW.block_ret ?_ | refine Cut.ret ?_ | refine Rnd.ret ?_ | refine PW.block_normal ?_ | refine CW.exit ?_ | refine PW.then_exit ?_ | refine PW.block_hit ?_ | refine PW.block_miss rfl ?_ | refine Cut.exit ?_ | refine Rnd.exit ?_)
    refine CW.region ?_
    refine L1 (os_loadAll (by repeat (first | exact pk_head _ _ | apply pk_tail)) T.ag27 (by exact T.sz27) rfl) ?_
    refine L1 (os_loadAll (by repeat (first | exact pk_head _ _ | apply pk_tail)) T.ag27 (by exact T.sz27) rfl) ?_
    refine LE (os_bslR ([s, s].map nc) T.un22 T.ti27 (by rfl) (by rfl) (by simp [nc_len]) (by decide) (by decide)) ?_
    rintro _ _ ⟨b16, rfl, rfl⟩
    refine L1 (os_call1 (Add_row [s, s] rfl (by simp) m1 s1) Try.func15 (by decide +kernel) rfl rfl (by repeat (first | exact pk_head _ _ | apply pk_tail))) ?_
    refine L1 (ps_move rfl).os ?_
    refine L1 (ps_extract rfl rfl).os ?_
    refine L1 (ps_extract rfl rfl).os ?_
    refine L1 (os_storeAll (by repeat (first | exact pk_head _ _ | apply pk_tail)) (by exact T.sz27) rfl rfl (by first | exact nc_one _ | simp [Value.oneCell']) (by rfl)) ?_
    refine L1 (ps_assign rfl).os ?_
    refine LW.nil ?_
    repeat (first | refine CW.seq ?_ | refine PW.then_ ?_ | refine CW.block ?_ | refine CW.skip ?_ | refine CW.ret ?_ | refine PW.then_ret ?_ | refine PW.block_ret ?_ | refine Cut.ret ?_ | refine Rnd.ret ?_ | refine PW.block_normal ?_ | refine CW.exit ?_ | refine PW.then_exit ?_ | refine PW.block_hit ?_ | refine PW.block_miss rfl ?_ | refine Cut.exit ?_ | refine Rnd.exit ?_)
    refine CW.region ?_
    refine L1 (ps_move rfl).os ?_
    refine L1 (ps_not rfl).os ?_
    refine LW.nil ?_
    repeat (first | refine CW.seq ?_ | refine PW.then_ ?_ | refine CW.block ?_ | refine CW.skip ?_ | refine CW.ret ?_ | refine PW.then_ret ?_ | refine PW.block_ret ?_ | refine Cut.ret ?_ | refine Rnd.ret ?_ | refine PW.block_normal ?_ | refine CW.exit ?_ | refine PW.then_exit ?_ | refine PW.block_hit ?_ | refine PW.block_miss rfl ?_ | refine Cut.exit ?_ | refine Rnd.exit ?_)
    refine CW.cond_false rfl ?_
    repeat (first | refine CW.seq ?_ | refine PW.then_ ?_ | refine CW.block ?_ | refine CW.skip ?_ | refine CW.ret ?_ | refine PW.then_ret ?_ | refine PW.block_ret ?_ | refine Cut.ret ?_ | refine Rnd.ret ?_ | refine PW.block_normal ?_ | refine CW.exit ?_ | refine PW.then_exit ?_ | refine PW.block_hit ?_ | refine PW.block_miss rfl ?_ | refine Cut.exit ?_ | refine Rnd.exit ?_)
    by_cases hc : c = 1
    · subst hc
      have s2 : addN [2 * s, 1] = (2 * s + 1, true) := by unfold addN; rw [if_pos (by simpa using h2)]; simp
      have m2 : ∀ x ∈ [2 * s, 1], x < M128 := by have := M128_eq; simp; omega
      refine CW.region ?_
      refine L1 (os_loadAll (by repeat (first | exact pk_head _ _ | apply pk_tail)) T.ag27 (by exact T.sz27) rfl) ?_
      refine L1 (ps_move rfl).os ?_
      refine L1 (os_call0 hbit Try.func19 (by decide +kernel) rfl rfl) ?_
      refine L1 (ps_t (ps_eql rfl rfl) (rfl)).os ?_
      refine LW.nil ?_
      repeat (first | refine CW.seq ?_ | refine PW.then_ ?_ | refine CW.block ?_ | refine CW.skip ?_ | refine CW.ret ?_ | refine PW.then_ret ?_ | refine PW.block_ret ?_ | refine Cut.ret ?_ | refine Rnd.ret ?_ | refine PW.block_normal ?_ | refine CW.exit ?_ | refine PW.then_exit ?_ | refine PW.block_hit ?_ | refine PW.block_miss rfl ?_ | refine Cut.exit ?_ | refine Rnd.exit ?_)
      refine CW.cond_true rfl ?_
      repeat (first | refine CW.seq ?_ | refine PW.then_ ?_ | refine CW.block ?_ | refine CW.skip ?_ | refine CW.ret ?_ | refine PW.then_ret ?_ | refine PW.block_ret ?_ | refine Cut.ret ?_ | refine Rnd.ret ?_ | refine PW.block_normal ?_ | refine CW.exit ?_ | refine PW.then_exit ?_ | refine PW.block_hit ?_ | refine PW.block_miss rfl ?_ | refine Cut.exit ?_ | refine Rnd.exit ?_)
      refine CW.region ?_
      refine L1 (os_loadAll (by repeat (first | exact pk_head _ _ | apply pk_tail)) T.ag27 (by exact T.sz27) rfl) ?_
      refine L1 (os_loadAll (by repeat (first | exact pk_head _ _ | apply pk_tail)) T.ag27 (by exact T.sz27) rfl) ?_
      refine LE (os_bslR ([2 * s, 1].map nc) T.un22 T.ti27 (by rfl) (by rfl) (by simp [nc_len]) (by decide) (by decide)) ?_
      rintro _ _ ⟨b29, rfl, rfl⟩
      refine L1 (os_call1 (Add_row [2 * s, 1] rfl (by simp) m2 s2) Try.func15 (by decide +kernel) rfl rfl (by repeat (first | exact pk_head _ _ | apply pk_tail))) ?_
      refine L1 (ps_move rfl).os ?_
      refine L1 (ps_extract rfl rfl).os ?_
      refine L1 (ps_extract rfl rfl).os ?_
      refine L1 (os_storeAll (by repeat (first | exact pk_head _ _ | apply pk_tail)) (by exact T.sz27) rfl rfl (by first | exact nc_one _ | simp [Value.oneCell']) (by rfl)) ?_
      refine L1 (ps_assign rfl).os ?_
      refine LW.nil ?_
      repeat (first | refine CW.seq ?_ | refine PW.then_ ?_ | refine CW.block ?_ | refine CW.skip ?_ | refine CW.ret ?_ | refine PW.then_ret ?_ | refine PW.block_ret ?_ | refine Cut.ret ?_ | refine Rnd.ret ?_ | refine PW.block_normal ?_ | refine CW.exit ?_ | refine PW.then_exit ?_ | refine PW.block_hit ?_ | refine PW.block_miss rfl ?_ | refine Cut.exit ?_ | refine Rnd.exit ?_)
      refine CW.region ?_
      refine L1 (ps_move rfl).os ?_
      refine L1 (ps_not rfl).os ?_
      refine LW.nil ?_
      repeat (first | refine CW.seq ?_ | refine PW.then_ ?_ | refine CW.block ?_ | refine CW.skip ?_ | refine CW.ret ?_ | refine PW.then_ret ?_ | refine PW.block_ret ?_ | refine Cut.ret ?_ | refine Rnd.ret ?_ | refine PW.block_normal ?_ | refine CW.exit ?_ | refine PW.then_exit ?_ | refine PW.block_hit ?_ | refine PW.block_miss rfl ?_ | refine Cut.exit ?_ | refine Rnd.exit ?_)
      refine CW.cond_false rfl ?_
      repeat (first | refine CW.seq ?_ | refine PW.then_ ?_ | refine CW.block ?_ | refine CW.skip ?_ | refine CW.ret ?_ | refine PW.then_ret ?_ | refine PW.block_ret ?_ | refine Cut.ret ?_ | refine Rnd.ret ?_ | refine PW.block_normal ?_ | refine CW.exit ?_ | refine PW.then_exit ?_ | refine PW.block_hit ?_ | refine PW.block_miss rfl ?_ | refine Cut.exit ?_ | refine Rnd.exit ?_)
      refine CW.region ?_
      refine L1 (ps_add_i64 rfl rfl (by omega) (by omega)).os ?_
      refine L1 (ps_move rfl).os ?_
      refine LW.nil ?_
      exact Meet.round (128 - (i + 1)) (i + 1) (by omega) ⟨hlt, rfl⟩ (by repeat (first | (with_reducible exact Ag.refl _ _) | (with_reducible apply Ag.pu0) | ((with_reducible refine Ag.pu _ ?_ ?_); · exact rfl) | ((with_reducible refine Ag.mix ?_ ?_); · exact rfl) | ((with_reducible refine Ag.pus ?_ ?_); · exact rfl))) ⟨rfl, trivial⟩ (by rw [hsx]; exact (by repeat (first | exact Ent.refl _ | (apply Ent.cons; · repeat (first | exact pk_head _ _ | apply pk_tail)) | apply Ent.skip)))
    · have hc0 : c = 0 := by omega
      subst hc0
      refine CW.region ?_
      refine L1 (os_loadAll (by repeat (first | exact pk_head _ _ | apply pk_tail)) T.ag27 (by exact T.sz27) rfl) ?_
      refine L1 (ps_move rfl).os ?_
      refine L1 (os_call0 hbit Try.func19 (by decide +kernel) rfl rfl) ?_
      refine L1 (ps_f (ps_eql rfl rfl) (by decide)).os ?_
      refine LW.nil ?_
      repeat (first | refine CW.seq ?_ | refine PW.then_ ?_ | refine CW.block ?_ | refine CW.skip ?_ | refine CW.ret ?_ | refine PW.then_ret ?_ | refine PW.block_ret ?_ | refine Cut.ret ?_ | refine Rnd.ret ?_ | refine PW.block_normal ?_ | refine CW.exit ?_ | refine PW.then_exit ?_ | refine PW.block_hit ?_ | refine PW.block_miss rfl ?_ | refine Cut.exit ?_ | refine Rnd.exit ?_)
      refine CW.cond_false rfl ?_
      repeat (first | refine CW.seq ?_ | refine PW.then_ ?_ | refine CW.block ?_ | refine CW.skip ?_ | refine CW.ret ?_ | refine PW.then_ret ?_ | refine PW.block_ret ?_ | refine Cut.ret ?_ | refine Rnd.ret ?_ | refine PW.block_normal ?_ | refine CW.exit ?_ | refine PW.then_exit ?_ | refine PW.block_hit ?_ | refine PW.block_miss rfl ?_ | refine Cut.exit ?_ | refine Rnd.exit ?_)
      refine CW.region ?_
      refine L1 (ps_add_i64 rfl rfl (by omega) (by omega)).os ?_
      refine L1 (ps_move rfl).os ?_
      refine LW.nil ?_
      exact Meet.round (128 - (i + 1)) (i + 1) (by omega) ⟨hlt, rfl⟩ (by repeat (first | (with_reducible exact Ag.refl _ _) | (with_reducible apply Ag.pu0) | ((with_reducible refine Ag.pu _ ?_ ?_); · exact rfl) | ((with_reducible refine Ag.mix ?_ ?_); · exact rfl) | ((with_reducible refine Ag.pus ?_ ?_); · exact rfl))) ⟨rfl, trivial⟩ (by rw [hsx, Nat.add_zero]; exact (by repeat (first | exact Ent.refl _ | (apply Ent.cons; · repeat (first | exact pk_head _ _ | apply pk_tail)) | apply Ent.skip)))
  · have hil : i = 128 := by omega
    subst hil
    refine CW.region ?_
    refine L1 (ps_f (ps_lss rfl rfl) (by decide)).os ?_
    refine LW.nil ?_
    repeat (first | refine CW.seq ?_ | refine PW.then_ ?_ | refine CW.block ?_ | refine CW.skip ?_ | refine CW.ret ?_ | refine PW.then_ret ?_ | refine PW.block_ret ?_ | refine Cut.ret ?_ | refine Rnd.ret ?_ | refine PW.block_normal ?_ | refine CW.exit ?_ | refine PW.then_exit ?_ | refine PW.block_hit ?_ | refine PW.block_miss rfl ?_ | refine Cut.exit ?_ | refine Rnd.exit ?_)
    refine CW.cond_false rfl ?_
    repeat (first | refine CW.seq ?_ | refine PW.then_ ?_ | refine CW.block ?_ | refine CW.skip ?_ | refine CW.ret ?_ | refine PW.then_ret ?_ | refine PW.block_ret ?_ | refine Cut.ret ?_ | refine Rnd.ret ?_ | refine PW.block_normal ?_ | refine CW.exit ?_ | refine PW.then_exit ?_ | refine PW.block_hit ?_ | refine PW.block_miss rfl ?_ | refine Cut.exit ?_ | refine Rnd.exit ?_)
    refine CW.region ?_
    refine L1 (os_loadAll (by repeat (first | exact pk_head _ _ | apply pk_tail)) T.ag27 (by exact T.sz27) rfl) ?_
    refine L1 (os_loadAll (by repeat (first | exact pk_head _ _ | apply pk_tail)) T.ag27 (by exact T.sz27) rfl) ?_
    refine L1 (ps_t (ps_num_eql (a / 2 ^ (128 - 128)) a T.eq27 rfl rfl) (by simp)).os ?_
    refine L1 (ps_assign rfl).os ?_
    refine LW.nil ?_
    repeat (first | refine CW.seq ?_ | refine PW.then_ ?_ | refine CW.block ?_ | refine CW.skip ?_ | refine CW.ret ?_ | refine PW.then_ret ?_ | refine PW.block_ret ?_ | refine Cut.ret ?_ | refine Rnd.ret ?_ | refine PW.block_normal ?_ | refine CW.exit ?_ | refine PW.then_exit ?_ | refine PW.block_hit ?_ | refine PW.block_miss rfl ?_ | refine Cut.exit ?_ | refine Rnd.exit ?_)
    exact Fin.ret1 (v := .bool true) rfl [bag (blks W)] rfl ⟨rfl, rfl⟩ (by repeat (first | exact Ent.refl _ | (apply Ent.cons; · repeat (first | exact pk_head _ _ | apply pk_tail)) | apply Ent.skip))

namespace u128Bits
open Go.ChangeShapes Go.WideShapes Go.ChangeAt Go.RowKit
theorem own : ownKnob Try.prog.godebug = none := by kernel_rfl
theorem laidOut : laidOutB Try.prog = true := by kernel_rfl
set_option maxRecDepth 100000 in
theorem lifted (os : Os) (started : os.Started) (H : Type) (enc : TypeId × Value → H) :
    ReturnsInHanded {} Try.checked os 6 .any (Rows.u128BitsSpec.pre6 enc Try.prog Try.f6 Rows.u128BitsRow.domain false) (Rows.u128BitsSpec.post enc Try.prog Try.f6 false true false false) := by
  refine returnsInHanded_of_change (C := Try.checked) own started (by kernel_rfl) Try.func6
    (ChangeSpec.witness6 (enc := enc) (C := Try.checked) false ⟨#[], #[(.agg (([Value.int .u64 0]) ++ ([Value.int .u64 0])).toArray)], []⟩ 8 (by kernel_rfl) (by kernel_rfl) (by kernel_rfl) (by kernel_rfl)) ?_
  intro W base args ds gs before hval0 hW hcnd _
  have hval : ∀ (j : Nat) t v, Try.f6.params[j]? = some t → args[j]? = some v → Value.okWide Try.prog W .any base t v := hval0
  have hW' := hW
  obtain ⟨p, q, hA0, hV, rfl, hfz, hnd⟩ := hW
  have hA : DataW.TrodAll enc Try.prog W 0 (fun _ => true) true Try.f6.params.toList args.toList ds p := hA0
  rw [Try.params6] at hA hval
  obtain ⟨v0, vs0, d0, ds0, p0, q0, hargs, rfl, rfl, h0, r0⟩ := trodAll_cons hA
  obtain ⟨rfl, rfl, rfl⟩ := trodAll_nil r0
  obtain rfl : args = #[v0] := by cases args; simp_all
  obtain ⟨rfl, rfl⟩ := trodVars_none hV
  obtain ⟨cs0, rfl, hcs0⟩ := okWide_agg T.ag27 (hval 0 27 v0 rfl rfl)
  obtain ⟨fu0, hf0⟩ := h0
  obtain ⟨a0, b0, c0⟩ := open_apiNum hf0
  simp only [List.append_nil] at hW'
  refine (LawOf.calls (U128Bits_law W _ a0 b0 c0)).mono fun e W' ⟨he, hb⟩ => ?_
  subst he
  exact ⟨_, rfl, law_post laidOut rfl (tb := 4) (by kernel_rfl) T.un4 (by intro t ht; rw [Try.params6] at ht; simp only [List.mem_cons, List.not_mem_nil, or_false] at ht; rcases ht with rfl <;> exact ⟨by kernel_rfl, by decide +kernel⟩) rfl hW' hb⟩
theorem holds : Rows.U128BitsSaid :=
  OpenClaim.holds_of_wide 6 Try.f6 rfl rfl rfl rfl rfl rfl rfl ⟨rfl, rfl, rfl, rfl, rfl⟩ rfl rfl rfl rfl rfl (by kernel_rfl) Try.func6 (by kernel_rfl)
    (of_decide_eq_true (by kernel_rfl)) (by unfold Func.isWrapper; rw [if_neg (of_decide_eq_false (by kernel_rfl))]; exact ⟨rfl, rfl⟩)
    (fun os started H enc _ => lifted os started H enc)
end u128Bits
end Go.Proofs.Ytafalcebolbbeaa
