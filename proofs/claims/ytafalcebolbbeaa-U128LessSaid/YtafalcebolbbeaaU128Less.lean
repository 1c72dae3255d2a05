/- The law U128Less: differences take back what sums add; what is less is told: it answers true for every two numbers (no condition). -/
import Derived.Test.YtafalcebolbbeaaUxDig
import Derived.Test.YtafalcebolbbeaaRows
namespace Go.Proofs.Ytafalcebolbbeaa
open Go Go.SL
set_option linter.unusedVariables false
set_option linter.unusedSimpArgs false

theorem cmp_step (a b i : Nat) : cmpN (a % 256 ^ (i + 1)) (b % 256 ^ (i + 1)) = if dgb a i = dgb b i then cmpN (a % 256 ^ i) (b % 256 ^ i) else if dgb a i < dgb b i then -1 else 1 := by
  unfold dgb
  have hp : 0 < 256 ^ i := Nat.pow_pos (by decide)
  rw [Nat.pow_succ, Nat.mod_mul, Nat.mod_mul]
  generalize 256 ^ i = p at hp
  have h1 := Nat.mod_lt a hp
  have h2 := Nat.mod_lt b hp
  generalize a / p % 256 = x
  generalize b / p % 256 = y
  generalize a % p = a' at *
  generalize b % p = b' at *
  rcases Nat.lt_trichotomy x y with h | h | h
  · rw [if_neg (by omega), if_pos h]
    have := Nat.mul_le_mul_left p h
    rw [Nat.mul_succ] at this
    unfold cmpN
    rw [if_pos (by omega)]
  · subst h
    rw [if_pos rfl]
    unfold cmpN
    split <;> split <;> first | rfl | omega | (split <;> split <;> first | rfl | omega) | (split <;> first | rfl | omega)
  · rw [if_neg (by omega), if_neg (by omega)]
    have := Nat.mul_le_mul_left p h
    rw [Nat.mul_succ] at this
    unfold cmpN
    rw [if_neg (by omega)]
    split <;> first | rfl | omega
theorem cmp_top (a b : Nat) (ha : a < M128) (hb : b < M128) : cmpN (a % 256 ^ 16) (b % 256 ^ 16) = cmpN a b := by
  have e : (256 : Nat) ^ 16 = M128 := by decide +kernel
  rw [e, Nat.mod_eq_of_lt ha, Nat.mod_eq_of_lt hb]
theorem cmp_neg_wrap (a b : Nat) : IntKind.i64.wrap (0 - cmpN a b) = cmpN b a := by
  rw [← cmpN_neg]
  refine wrap_i64_id ?_ ?_ <;> unfold cmpN <;> split <;> (try split) <;> omega
theorem sub_facts (a b : Nat) (ha : a < M128) (hb : b < M128) : ∃ d o, subN a b = (d, o) ∧ o = decide (0 ≤ cmpN a b) ∧ (o = false → d = 0) ∧ (o = true → addN [d, b] = (a, true)) ∧ addN [d, b] = ((addN [d, b]).1, true) := by
  unfold subN
  by_cases h : b ≤ a
  · have e : a - b + b = a := by omega
    have h2 : addN [a - b, b] = (a, true) := by unfold addN; simp [e, ha]
    rw [if_pos h]
    exact ⟨a - b, true, rfl, (decide_eq_true (cmpN_ge0.2 h)).symm, by simp, fun _ => h2, by rw [h2]⟩
  · have h2 : addN [0, b] = (b, true) := by unfold addN; simp [hb]
    rw [if_neg h]
    exact ⟨0, false, rfl, (decide_eq_false (fun h' => h (cmpN_ge0.1 h'))).symm, fun _ => rfl, by simp, by rw [h2]⟩
theorem U128Less_law (W : World) (cs0 : List Value) (a : Nat) (e0 : cs0 = nc a) (ha : a < M128) (cs1 : List Value) (b : Nat) (e1 : cs1 = nc b) (hb : b < M128) :
    LawOf Try.prog 10 [.agg cs0.toArray, .agg cs1.toArray] W := by
  subst e0; subst e1
  obtain ⟨d, o, hsub, ho, hd0, hadd, hadd2⟩ := sub_facts a b ha hb
  have hsp := Sub_spec a b ha hb
  rw [hsub] at hsp
  have hdM : ∀ x ∈ [d, b], x < M128 := by
    have : d < M128 := by
      have h : (subN a b).1 < M128 := by unfold subN; split <;> simp <;> omega
      rw [hsub] at h; exact h
    simp [this, hb]
  refine FSpec.intro Try.func10 rfl 96 Try.ntmps10 (Nat.le_of_ble_eq_true rfl) fun w0 F => ?_
  show CW _ _ _ _ _ _ (_ :: F)
  repeat (first | refine CW.seq ?_ | refine PW.then_ ?_ | refine CW.block ?_ | refine CW.skip ?_ | refine CW.ret ?_ | refine PW.then_ret ?_ | refine PW.block_ret ?_ | refine Cut.ret ?_ | refine Rnd.ret ?_ | refine PW.block_normal ?_ | refine CW.exit ?_ | refine PW.then_exit ?_ | refine PW.block_hit ?_ | refine PW.block_miss rfl ?_ | refine Cut.exit ?_ | refine Rnd.exit ?_)
  refine CW.region ?_
  refine LE (os_box rfl (by rfl)) ?_
  rintro _ _ ⟨b2, rfl, rfl⟩
  refine LE (os_box rfl (by rfl)) ?_
  rintro _ _ ⟨b3, rfl, rfl⟩
  refine L1 (ps_assign rfl).os ?_
  refine LW.nil ?_
  repeat (first | refine CW.seq ?_ | refine PW.then_ ?_ | refine CW.block ?_ | refine CW.skip ?_ | refine CW.ret ?_ | refine PW.then_ret ?_ | refine PW.block_ret ?_ | refine Cut.ret ?_ | refine Rnd.ret ?_ | refine PW.block_normal ?_ | refine CW.exit ?_ | refine PW.then_exit ?_ | refine PW.block_hit ?_ | refine PW.block_miss rfl ?_ | refine Cut.exit ?_ | refine Rnd.exit ?_)
  refine CW.region ?_
  refine L1 (os_call0 fit_spec Try.func13 (by decide +kernel) rfl rfl) ?_
  refine L1 (ps_not rfl).os ?_
  refine LW.nil ?_
  repeat (first | refine CW.seq ?_ | refine PW.then_ ?_ | refine CW.block ?_ | refine CW.skip ?_ | refine CW.ret ?_ | refine PW.then_ret ?_ | refine PW.block_ret ?_ | refine Cut.ret ?_ | refine Rnd.ret ?_ | refine PW.block_normal ?_ | refine CW.exit ?_ | refine PW.then_exit ?_ | refine PW.block_hit ?_ | refine PW.block_miss rfl ?_ | refine Cut.exit ?_ | refine Rnd.exit ?_)
  refine CW.cond_false rfl ?_
  repeat (first | refine CW.seq ?_ | refine PW.then_ ?_ | refine CW.block ?_ | refine CW.skip ?_ | refine CW.ret ?_ | refine PW.then_ret ?_ | refine PW.block_ret ?_ | refine Cut.ret ?_ | refine Rnd.ret ?_ | refine PW.block_normal ?_ | refine CW.exit ?_ | refine PW.then_exit ?_ | refine PW.block_hit ?_ | refine PW.block_miss rfl ?_ | refine Cut.exit ?_ | refine Rnd.exit ?_)
  refine CW.region ?_
  refine L1 (os_loadAll (by repeat (first | exact pk_head _ _ | apply pk_tail)) T.ag27 (by exact T.sz27) rfl) ?_
  refine L1 (os_loadAll (by repeat (first | exact pk_head _ _ | apply pk_tail)) T.ag27 (by exact T.sz27) rfl) ?_
  refine L1 (os_call0 hsp Try.func22 (by decide +kernel) rfl rfl) ?_
  refine L1 (ps_move rfl).os ?_
  refine L1 (ps_extract rfl rfl).os ?_
  refine L1 (ps_extract rfl rfl).os ?_
  refine LE (os_alloc T.ti27) ?_
  rintro _ _ ⟨b5, rfl, rfl⟩
  refine L1 (os_storeAll (b := b5) (vs := nc d) (by repeat (first | exact pk_head _ _ | apply pk_tail)) (by exact T.sz27) rfl rfl (nc_one _) (by rfl)) ?_
  refine L1 (ps_assign rfl).os ?_
  refine LW.nil ?_
  repeat (first | refine CW.seq ?_ | refine PW.then_ ?_ | refine CW.block ?_ | refine CW.skip ?_ | refine CW.ret ?_ | refine PW.then_ret ?_ | refine PW.block_ret ?_ | refine Cut.ret ?_ | refine Rnd.ret ?_ | refine PW.block_normal ?_ | refine CW.exit ?_ | refine PW.then_exit ?_ | refine PW.block_hit ?_ | refine PW.block_miss rfl ?_ | refine Cut.exit ?_ | refine Rnd.exit ?_)
  refine CW.region ?_
  refine L1 (os_loadAll (by repeat (first | exact pk_head _ _ | apply pk_tail)) T.ag27 (by exact T.sz27) rfl) ?_
  refine L1 (os_loadAll (by repeat (first | exact pk_head _ _ | apply pk_tail)) T.ag27 (by exact T.sz27) rfl) ?_
  refine L1 (os_call0 (Compare_spec a b ha hb) Try.func18 (by decide +kernel) rfl rfl) ?_
  refine L1 (ps_assign rfl).os ?_
  refine LW.nil ?_
  repeat (first | refine CW.seq ?_ | refine PW.then_ ?_ | refine CW.block ?_ | refine CW.skip ?_ | refine CW.ret ?_ | refine PW.then_ret ?_ | refine PW.block_ret ?_ | refine Cut.ret ?_ | refine Rnd.ret ?_ | refine PW.block_normal ?_ | refine CW.exit ?_ | refine PW.then_exit ?_ | refine PW.block_hit ?_ | refine PW.block_miss rfl ?_ | refine Cut.exit ?_ | refine Rnd.exit ?_)
  refine CW.cutB (α := Unit) [25, 26, 27, 28, 29, 30, 31, 32, 33, 34, 35, 36, 37, 38, 39, 40, 41, 42, 43, 44, 45, 46, 47, 48, 49, 50, 51, 52, 53] (fun _ => True) (fun _ => [(53, .bool false)]) (fun _ => cb b2 27 (nc a) :: cb b3 27 (nc b) :: cb b5 27 (nc d) :: bag (blks W) :: F) ?_ ?_
  · have e48 : decide (cmpN a b = 0) = decide (a = b) := by rw [decide_eq_decide]; exact cmpN_eq0
    cases o
    · have hge : ¬ 0 ≤ cmpN a b := of_decide_eq_false ho.symm
      have hd := hd0 rfl
      subst hd
      refine CW.region ?_
      refine L1 (ps_move rfl).os ?_
      refine L1 (ps_move rfl).os ?_
      refine L1 (ps_f (ps_geq rfl rfl) (hge)).os ?_
      refine L1 (ps_to (u := .bool false) (by rfl) (ps_bool_neq T.un4 rfl rfl)).os ?_
      refine L1 (ps_move rfl).os ?_
      refine LG1 ?_ (ps_move rfl).os ?_
      · exact rfl
      refine LG1 ?_ (ps_not rfl).os ?_
      · exact rfl
      refine LG1 ?_ (ps_move rfl).os ?_
      · exact rfl
      refine LG1 ?_ (os_loadAll (by repeat (first | exact pk_head _ _ | apply pk_tail)) T.ag27 (by exact T.sz27) rfl) ?_
      · exact rfl
      refine LG1 ?_ (ps_build (by rfl) (T.bd27)).os ?_
      · exact rfl
      refine LG1 ?_ (ps_f (ps_num_neq 0 0 T.eq27 rfl rfl) (fun h => h rfl)).os ?_
      · exact rfl
      refine LG1 ?_ (ps_pick_t rfl rfl).os ?_
      · exact rfl
      refine L1 (ps_pick_f rfl rfl).os ?_
      refine L1 (ps_move rfl).os ?_
      refine LG1 ?_ (os_loadAll (by repeat (first | exact pk_head _ _ | apply pk_tail)) T.ag27 (by exact T.sz27) rfl) ?_
      · exact rfl
      refine LG1 ?_ (os_loadAll (by repeat (first | exact pk_head _ _ | apply pk_tail)) T.ag27 (by exact T.sz27) rfl) ?_
      · exact rfl
      refine LG1 ?_ (os_call0 (Compare_spec b a hb ha) Try.func18 (by decide +kernel) rfl rfl) ?_
      · exact rfl
      refine LG1 ?_ (ps_move rfl).os ?_
      · exact rfl
      refine LG1 ?_ (ps_to (congrArg (Value.int .i64) (cmp_neg_wrap a b)) (ps_neg rfl)).os ?_
      · exact rfl
      refine LG1 ?_ (ps_f (ps_neq rfl rfl) (fun h => h rfl)).os ?_
      · exact rfl
      refine L1 (ps_pick_f rfl rfl).os ?_
      refine L1 (ps_move rfl).os ?_
      refine LG1 ?_ (ps_move rfl).os ?_
      · exact rfl
      refine LG1 ?_ (ps_to (congrArg Value.bool e48) (ps_eql rfl rfl)).os ?_
      · exact rfl
      refine LG1 ?_ (os_loadAll (by repeat (first | exact pk_head _ _ | apply pk_tail)) T.ag27 (by exact T.sz27) rfl) ?_
      · exact rfl
      refine LG1 ?_ (os_loadAll (by repeat (first | exact pk_head _ _ | apply pk_tail)) T.ag27 (by exact T.sz27) rfl) ?_
      · exact rfl
      refine LG1 ?_ (ps_num_eql a b T.eq27 rfl rfl).os ?_
      · exact rfl
      refine LG1 ?_ (ps_to (u := .bool false) (by simp) (ps_bool_neq T.un4 rfl rfl)).os ?_
      · exact rfl
      refine L1 (ps_pick_f rfl rfl).os ?_
      refine LW.nil ?_
      exact Meet.cut () trivial (by repeat (first | (with_reducible exact Ag.refl _ _) | (with_reducible apply Ag.pu0) | ((with_reducible refine Ag.pu _ ?_ ?_); · exact rfl) | ((with_reducible refine Ag.mix ?_ ?_); · exact rfl) | ((with_reducible refine Ag.pus ?_ ?_); · exact rfl))) ⟨rfl, trivial⟩ (by repeat (first | exact Ent.refl _ | (apply Ent.cons; · repeat (first | exact pk_head _ _ | apply pk_tail)) | apply Ent.skip))
    · have hge : 0 ≤ cmpN a b := of_decide_eq_true ho.symm
      refine CW.region ?_
      refine L1 (ps_move rfl).os ?_
      refine L1 (ps_move rfl).os ?_
      refine L1 (ps_t (ps_geq rfl rfl) (hge)).os ?_
      refine L1 (ps_to (u := .bool false) (by rfl) (ps_bool_neq T.un4 rfl rfl)).os ?_
      refine L1 (ps_move rfl).os ?_
      refine LG1 ?_ (ps_move rfl).os ?_
      · exact rfl
      refine LG1 ?_ (ps_not rfl).os ?_
      · exact rfl
      refine LG1 ?_ (ps_move rfl).os ?_
      · exact rfl
      refine LG0t ?_ ?_
      · exact rfl
      refine LG0t ?_ ?_
      · exact rfl
      refine LG0t ?_ ?_
      · exact rfl
      refine LG1 ?_ (ps_pick_f rfl rfl).os ?_
      · exact rfl
      refine L1 (ps_pick_f rfl rfl).os ?_
      refine L1 (ps_move rfl).os ?_
      refine LG1 ?_ (os_loadAll (by repeat (first | exact pk_head _ _ | apply pk_tail)) T.ag27 (by exact T.sz27) rfl) ?_
      · exact rfl
      refine LG1 ?_ (os_loadAll (by repeat (first | exact pk_head _ _ | apply pk_tail)) T.ag27 (by exact T.sz27) rfl) ?_
      · exact rfl
      refine LG1 ?_ (os_call0 (Compare_spec b a hb ha) Try.func18 (by decide +kernel) rfl rfl) ?_
      · exact rfl
      refine LG1 ?_ (ps_move rfl).os ?_
      · exact rfl
      refine LG1 ?_ (ps_to (congrArg (Value.int .i64) (cmp_neg_wrap a b)) (ps_neg rfl)).os ?_
      · exact rfl
      refine LG1 ?_ (ps_f (ps_neq rfl rfl) (fun h => h rfl)).os ?_
      · exact rfl
      refine L1 (ps_pick_f rfl rfl).os ?_
      refine L1 (ps_move rfl).os ?_
      refine LG1 ?_ (ps_move rfl).os ?_
      · exact rfl
      refine LG1 ?_ (ps_to (congrArg Value.bool e48) (ps_eql rfl rfl)).os ?_
      · exact rfl
      refine LG1 ?_ (os_loadAll (by repeat (first | exact pk_head _ _ | apply pk_tail)) T.ag27 (by exact T.sz27) rfl) ?_
      · exact rfl
      refine LG1 ?_ (os_loadAll (by repeat (first | exact pk_head _ _ | apply pk_tail)) T.ag27 (by exact T.sz27) rfl) ?_
      · exact rfl
      refine LG1 ?_ (ps_num_eql a b T.eq27 rfl rfl).os ?_
      · exact rfl
      refine LG1 ?_ (ps_to (u := .bool false) (by simp) (ps_bool_neq T.un4 rfl rfl)).os ?_
      · exact rfl
      refine L1 (ps_pick_f rfl rfl).os ?_
      refine LW.nil ?_
      exact Meet.cut () trivial (by repeat (first | (with_reducible exact Ag.refl _ _) | (with_reducible apply Ag.pu0) | ((with_reducible refine Ag.pu _ ?_ ?_); · exact rfl) | ((with_reducible refine Ag.mix ?_ ?_); · exact rfl) | ((with_reducible refine Ag.pus ?_ ?_); · exact rfl))) ⟨rfl, trivial⟩ (by repeat (first | exact Ent.refl _ | (apply Ent.cons; · repeat (first | exact pk_head _ _ | apply pk_tail)) | apply Ent.skip))
  intro _ g5 _
  repeat (first | refine CW.seq ?_ | refine PW.then_ ?_ | refine CW.block ?_ | refine CW.skip ?_ | refine CW.ret ?_ | refine PW.then_ret ?_ | refine PW.block_ret ?_ | refine Cut.ret ?_ | refine Rnd.ret ?_ | refine PW.block_normal ?_ | refine CW.exit ?_ | refine PW.then_exit ?_ | refine PW.block_hit ?_ | refine PW.block_miss rfl ?_ | refine Cut.exit ?_ | refine Rnd.exit ?_)
  refine CW.cond_false rfl ?_
  repeat (first | refine CW.seq ?_ | refine PW.then_ ?_ | refine CW.block ?_ | refine CW.skip ?_ | refine CW.ret ?_ | refine PW.then_ret ?_ | refine PW.block_ret ?_ | refine Cut.ret ?_ | refine Rnd.ret ?_ | refine PW.block_normal ?_ | refine CW.exit ?_ | refine PW.then_exit ?_ | refine PW.block_hit ?_ | refine PW.block_miss rfl ?_ | refine Cut.exit ?_ | refine Rnd.exit ?_)
  refine CW.cutB (α := Nat × Nat) [8, 9, 54, 55, 56, 57] (fun _ => True) (fun s => [(8, .pointer (some ⟨s.1, 0, none⟩)), (9, .pointer (some ⟨s.2, 0, none⟩))]) (fun s => cb s.1 24 (icells (dgs a)) :: cb s.2 24 (icells (dgs b)) :: cb b2 27 (nc a) :: cb b3 27 (nc b) :: cb b5 27 (nc d) :: bag (blks W) :: F) ?_ ?_
  · refine CW.drawH [cb b2 27 (nc a), cb b3 27 (nc b)] [] T.mixed ?_
    refine H_take (i := 0) (some 54) rfl rfl (by kernel_rfl) (by kernel_rfl) (by kernel_rfl) rfl (pl_loadAll (by repeat (first | exact pk_head _ _ | apply pk_tail)) T.ag27 (by exact T.sz27) rfl) (by kernel_rfl) (pkc (by repeat (first | exact pk_head _ _ | apply pk_tail)) (pkc (by repeat (first | exact pk_head _ _ | apply pk_tail)) (pkn _))) ?_
    refine H_take (i := 2) (some 56) rfl rfl (by kernel_rfl) (by kernel_rfl) (by kernel_rfl) rfl (pl_loadAll (by repeat (first | exact pk_head _ _ | apply pk_tail)) T.ag27 (by exact T.sz27) rfl) (by kernel_rfl) (pkc (by repeat (first | exact pk_head _ _ | apply pk_tail)) (pkc (by repeat (first | exact pk_head _ _ | apply pk_tail)) (pkn _))) ?_
    refine H_branch (rs := [1, 4, 5]) (by kernel_rfl) (by simp) ?_
    refine HR.cons1 (i := 1) (some 55) rfl rfl rfl (os_call0 (digits_spec a ha) Try.func14 (by decide +kernel) rfl rfl) (pkc (by repeat (first | exact pk_head _ _ | apply pk_tail)) (pkc (by repeat (first | exact pk_head _ _ | apply pk_tail)) (pkn _))) ?_ ?_
    · skip
      refine H_branch (rs := [3, 4, 5]) (by kernel_rfl) (by simp) ?_
      refine HR.cons1 (i := 3) (some 57) rfl rfl rfl (os_call0 (digits_spec b hb) Try.func14 (by decide +kernel) rfl rfl) (pkc (by repeat (first | exact pk_head _ _ | apply pk_tail)) (pkc (by repeat (first | exact pk_head _ _ | apply pk_tail)) (pkn _))) ?_ ?_
      · skip
        refine H_branch (rs := [4, 5]) (by kernel_rfl) (by simp) ?_
        refine HR.consE (i := 4) (some 8) rfl rfl rfl (os_alloc T.ti24) ?_ ?_
        · rintro _ _ ⟨b8, rfl, rfl⟩
          refine ⟨fun _ => ⟨_, (pkc (by repeat (first | exact pk_head _ _ | apply pk_tail)) (pkc (by repeat (first | exact pk_head _ _ | apply pk_tail)) (pkn _)))⟩, ?_⟩
          refine H_branch (rs := [5]) (by kernel_rfl) (by simp) ?_
          refine HR.consE (i := 5) (some 9) rfl rfl rfl (os_alloc T.ti24) ?_ ?_
          · rintro _ _ ⟨b9, rfl, rfl⟩
            refine ⟨fun _ => ⟨_, (pkc (by repeat (first | exact pk_head _ _ | apply pk_tail)) (pkc (by repeat (first | exact pk_head _ _ | apply pk_tail)) (pkn _)))⟩, ?_⟩
            refine H_branch (rs := [6]) (by kernel_rfl) (by simp) ?_
            refine HR.cons1 (i := 6) none rfl rfl rfl (os_storeAll (b := b8) (vs := icells (dgs a)) (by repeat (first | exact pk_head _ _ | apply pk_tail)) (by rw [icells_len]; exact T.sz24) rfl rfl (icells_one _) (by rw [icells_len]; rfl)) (pkc (by repeat (first | exact pk_head _ _ | apply pk_tail)) (pkc (by repeat (first | exact pk_head _ _ | apply pk_tail)) (pkn _))) ?_ ?_
            · skip
              refine H_branch (rs := [7]) (by kernel_rfl) (by simp) ?_
              refine HR.cons1 (i := 7) none rfl rfl rfl (os_storeAll (b := b9) (vs := icells (dgs b)) (by repeat (first | exact pk_head _ _ | apply pk_tail)) (by rw [icells_len]; exact T.sz24) rfl rfl (icells_one _) (by rw [icells_len]; rfl)) (pkc (by repeat (first | exact pk_head _ _ | apply pk_tail)) (pkc (by repeat (first | exact pk_head _ _ | apply pk_tail)) (pkn _))) ?_ ?_
              · skip
                refine H_done (by kernel_rfl) ?_
                exact Meet.cut (b8, b9) trivial (by repeat (first | (with_reducible exact Ag.refl _ _) | (with_reducible apply Ag.pu0) | ((with_reducible refine Ag.pu _ ?_ ?_); · exact rfl) | ((with_reducible refine Ag.mix ?_ ?_); · exact rfl) | ((with_reducible refine Ag.pus ?_ ?_); · exact rfl))) ⟨rfl, rfl, trivial⟩ (by repeat (first | exact Ent.refl _ | (apply Ent.cons; · repeat (first | exact pk_head _ _ | apply pk_tail)) | apply Ent.skip))
              exact HR.nil
            exact HR.nil
          exact HR.nil
        refine HR.consE (i := 5) (some 9) rfl rfl rfl (os_alloc T.ti24) ?_ ?_
        · rintro _ _ ⟨b9, rfl, rfl⟩
          refine ⟨fun _ => ⟨_, (pkc (by repeat (first | exact pk_head _ _ | apply pk_tail)) (pkc (by repeat (first | exact pk_head _ _ | apply pk_tail)) (pkn _)))⟩, ?_⟩
          refine H_branch (rs := [4]) (by kernel_rfl) (by simp) ?_
          refine HR.consE (i := 4) (some 8) rfl rfl rfl (os_alloc T.ti24) ?_ ?_
          · rintro _ _ ⟨b8, rfl, rfl⟩
            refine ⟨fun _ => ⟨_, (pkc (by repeat (first | exact pk_head _ _ | apply pk_tail)) (pkc (by repeat (first | exact pk_head _ _ | apply pk_tail)) (pkn _)))⟩, ?_⟩
            refine H_branch (rs := [6]) (by kernel_rfl) (by simp) ?_
            refine HR.cons1 (i := 6) none rfl rfl rfl (os_storeAll (b := b8) (vs := icells (dgs a)) (by repeat (first | exact pk_head _ _ | apply pk_tail)) (by rw [icells_len]; exact T.sz24) rfl rfl (icells_one _) (by rw [icells_len]; rfl)) (pkc (by repeat (first | exact pk_head _ _ | apply pk_tail)) (pkc (by repeat (first | exact pk_head _ _ | apply pk_tail)) (pkn _))) ?_ ?_
            · skip
              refine H_branch (rs := [7]) (by kernel_rfl) (by simp) ?_
              refine HR.cons1 (i := 7) none rfl rfl rfl (os_storeAll (b := b9) (vs := icells (dgs b)) (by repeat (first | exact pk_head _ _ | apply pk_tail)) (by rw [icells_len]; exact T.sz24) rfl rfl (icells_one _) (by rw [icells_len]; rfl)) (pkc (by repeat (first | exact pk_head _ _ | apply pk_tail)) (pkc (by repeat (first | exact pk_head _ _ | apply pk_tail)) (pkn _))) ?_ ?_
              · skip
                refine H_done (by kernel_rfl) ?_
                exact Meet.cut (b8, b9) trivial (by repeat (first | (with_reducible exact Ag.refl _ _) | (with_reducible apply Ag.pu0) | ((with_reducible refine Ag.pu _ ?_ ?_); · exact rfl) | ((with_reducible refine Ag.mix ?_ ?_); · exact rfl) | ((with_reducible refine Ag.pus ?_ ?_); · exact rfl))) ⟨rfl, rfl, trivial⟩ (by repeat (first | exact Ent.refl _ | (apply Ent.cons; · repeat (first | exact pk_head _ _ | apply pk_tail)) | apply Ent.skip))
              exact HR.nil
            exact HR.nil
          exact HR.nil
        exact HR.nil
      refine HR.consE (i := 4) (some 8) rfl rfl rfl (os_alloc T.ti24) ?_ ?_
      · rintro _ _ ⟨b8, rfl, rfl⟩
        refine ⟨fun _ => ⟨_, (pkc (by repeat (first | exact pk_head _ _ | apply pk_tail)) (pkc (by repeat (first | exact pk_head _ _ | apply pk_tail)) (pkn _)))⟩, ?_⟩
        refine H_branch (rs := [3, 5]) (by kernel_rfl) (by simp) ?_
        refine HR.cons1 (i := 3) (some 57) rfl rfl rfl (os_call0 (digits_spec b hb) Try.func14 (by decide +kernel) rfl rfl) (pkc (by repeat (first | exact pk_head _ _ | apply pk_tail)) (pkc (by repeat (first | exact pk_head _ _ | apply pk_tail)) (pkn _))) ?_ ?_
        · skip
          refine H_branch (rs := [5]) (by kernel_rfl) (by simp) ?_
          refine HR.consE (i := 5) (some 9) rfl rfl rfl (os_alloc T.ti24) ?_ ?_
          · rintro _ _ ⟨b9, rfl, rfl⟩
            refine ⟨fun _ => ⟨_, (pkc (by repeat (first | exact pk_head _ _ | apply pk_tail)) (pkc (by repeat (first | exact pk_head _ _ | apply pk_tail)) (pkn _)))⟩, ?_⟩
            refine H_branch (rs := [6]) (by kernel_rfl) (by simp) ?_
            refine HR.cons1 (i := 6) none rfl rfl rfl (os_storeAll (b := b8) (vs := icells (dgs a)) (by repeat (first | exact pk_head _ _ | apply pk_tail)) (by rw [icells_len]; exact T.sz24) rfl rfl (icells_one _) (by rw [icells_len]; rfl)) (pkc (by repeat (first | exact pk_head _ _ | apply pk_tail)) (pkc (by repeat (first | exact pk_head _ _ | apply pk_tail)) (pkn _))) ?_ ?_
            · skip
              refine H_branch (rs := [7]) (by kernel_rfl) (by simp) ?_
              refine HR.cons1 (i := 7) none rfl rfl rfl (os_storeAll (b := b9) (vs := icells (dgs b)) (by repeat (first | exact pk_head _ _ | apply pk_tail)) (by rw [icells_len]; exact T.sz24) rfl rfl (icells_one _) (by rw [icells_len]; rfl)) (pkc (by repeat (first | exact pk_head _ _ | apply pk_tail)) (pkc (by repeat (first | exact pk_head _ _ | apply pk_tail)) (pkn _))) ?_ ?_
              · skip
                refine H_done (by kernel_rfl) ?_
                exact Meet.cut (b8, b9) trivial (by repeat (first | (with_reducible exact Ag.refl _ _) | (with_reducible apply Ag.pu0) | ((with_reducible refine Ag.pu _ ?_ ?_); · exact rfl) | ((with_reducible refine Ag.mix ?_ ?_); · exact rfl) | ((with_reducible refine Ag.pus ?_ ?_); · exact rfl))) ⟨rfl, rfl, trivial⟩ (by repeat (first | exact Ent.refl _ | (apply Ent.cons; · repeat (first | exact pk_head _ _ | apply pk_tail)) | apply Ent.skip))
              exact HR.nil
            exact HR.nil
          exact HR.nil
        refine HR.consE (i := 5) (some 9) rfl rfl rfl (os_alloc T.ti24) ?_ ?_
        · rintro _ _ ⟨b9, rfl, rfl⟩
          refine ⟨fun _ => ⟨_, (pkc (by repeat (first | exact pk_head _ _ | apply pk_tail)) (pkc (by repeat (first | exact pk_head _ _ | apply pk_tail)) (pkn _)))⟩, ?_⟩
          refine H_branch (rs := [3]) (by kernel_rfl) (by simp) ?_
          refine HR.cons1 (i := 3) (some 57) rfl rfl rfl (os_call0 (digits_spec b hb) Try.func14 (by decide +kernel) rfl rfl) (pkc (by repeat (first | exact pk_head _ _ | apply pk_tail)) (pkc (by repeat (first | exact pk_head _ _ | apply pk_tail)) (pkn _))) ?_ ?_
          · skip
            refine H_branch (rs := [6]) (by kernel_rfl) (by simp) ?_
            refine HR.cons1 (i := 6) none rfl rfl rfl (os_storeAll (b := b8) (vs := icells (dgs a)) (by repeat (first | exact pk_head _ _ | apply pk_tail)) (by rw [icells_len]; exact T.sz24) rfl rfl (icells_one _) (by rw [icells_len]; rfl)) (pkc (by repeat (first | exact pk_head _ _ | apply pk_tail)) (pkc (by repeat (first | exact pk_head _ _ | apply pk_tail)) (pkn _))) ?_ ?_
            · skip
              refine H_branch (rs := [7]) (by kernel_rfl) (by simp) ?_
              refine HR.cons1 (i := 7) none rfl rfl rfl (os_storeAll (b := b9) (vs := icells (dgs b)) (by repeat (first | exact pk_head _ _ | apply pk_tail)) (by rw [icells_len]; exact T.sz24) rfl rfl (icells_one _) (by rw [icells_len]; rfl)) (pkc (by repeat (first | exact pk_head _ _ | apply pk_tail)) (pkc (by repeat (first | exact pk_head _ _ | apply pk_tail)) (pkn _))) ?_ ?_
              · skip
                refine H_done (by kernel_rfl) ?_
                exact Meet.cut (b8, b9) trivial (by repeat (first | (with_reducible exact Ag.refl _ _) | (with_reducible apply Ag.pu0) | ((with_reducible refine Ag.pu _ ?_ ?_); · exact rfl) | ((with_reducible refine Ag.mix ?_ ?_); · exact rfl) | ((with_reducible refine Ag.pus ?_ ?_); · exact rfl))) ⟨rfl, rfl, trivial⟩ (by repeat (first | exact Ent.refl _ | (apply Ent.cons; · repeat (first | exact pk_head _ _ | apply pk_tail)) | apply Ent.skip))
              exact HR.nil
            exact HR.nil
          exact HR.nil
        exact HR.nil
      refine HR.consE (i := 5) (some 9) rfl rfl rfl (os_alloc T.ti24) ?_ ?_
      · rintro _ _ ⟨b9, rfl, rfl⟩
        refine ⟨fun _ => ⟨_, (pkc (by repeat (first | exact pk_head _ _ | apply pk_tail)) (pkc (by repeat (first | exact pk_head _ _ | apply pk_tail)) (pkn _)))⟩, ?_⟩
        refine H_branch (rs := [3, 4]) (by kernel_rfl) (by simp) ?_
        refine HR.cons1 (i := 3) (some 57) rfl rfl rfl (os_call0 (digits_spec b hb) Try.func14 (by decide +kernel) rfl rfl) (pkc (by repeat (first | exact pk_head _ _ | apply pk_tail)) (pkc (by repeat (first | exact pk_head _ _ | apply pk_tail)) (pkn _))) ?_ ?_
        · skip
          refine H_branch (rs := [4]) (by kernel_rfl) (by simp) ?_
          refine HR.consE (i := 4) (some 8) rfl rfl rfl (os_alloc T.ti24) ?_ ?_
          · rintro _ _ ⟨b8, rfl, rfl⟩
            refine ⟨fun _ => ⟨_, (pkc (by repeat (first | exact pk_head _ _ | apply pk_tail)) (pkc (by repeat (first | exact pk_head _ _ | apply pk_tail)) (pkn _)))⟩, ?_⟩
            refine H_branch (rs := [6]) (by kernel_rfl) (by simp) ?_
            refine HR.cons1 (i := 6) none rfl rfl rfl (os_storeAll (b := b8) (vs := icells (dgs a)) (by repeat (first | exact pk_head _ _ | apply pk_tail)) (by rw [icells_len]; exact T.sz24) rfl rfl (icells_one _) (by rw [icells_len]; rfl)) (pkc (by repeat (first | exact pk_head _ _ | apply pk_tail)) (pkc (by repeat (first | exact pk_head _ _ | apply pk_tail)) (pkn _))) ?_ ?_
            · skip
              refine H_branch (rs := [7]) (by kernel_rfl) (by simp) ?_
              refine HR.cons1 (i := 7) none rfl rfl rfl (os_storeAll (b := b9) (vs := icells (dgs b)) (by repeat (first | exact pk_head _ _ | apply pk_tail)) (by rw [icells_len]; exact T.sz24) rfl rfl (icells_one _) (by rw [icells_len]; rfl)) (pkc (by repeat (first | exact pk_head _ _ | apply pk_tail)) (pkc (by repeat (first | exact pk_head _ _ | apply pk_tail)) (pkn _))) ?_ ?_
              · skip
                refine H_done (by kernel_rfl) ?_
                exact Meet.cut (b8, b9) trivial (by repeat (first | (with_reducible exact Ag.refl _ _) | (with_reducible apply Ag.pu0) | ((with_reducible refine Ag.pu _ ?_ ?_); · exact rfl) | ((with_reducible refine Ag.mix ?_ ?_); · exact rfl) | ((with_reducible refine Ag.pus ?_ ?_); · exact rfl))) ⟨rfl, rfl, trivial⟩ (by repeat (first | exact Ent.refl _ | (apply Ent.cons; · repeat (first | exact pk_head _ _ | apply pk_tail)) | apply Ent.skip))
              exact HR.nil
            exact HR.nil
          exact HR.nil
        refine HR.consE (i := 4) (some 8) rfl rfl rfl (os_alloc T.ti24) ?_ ?_
        · rintro _ _ ⟨b8, rfl, rfl⟩
          refine ⟨fun _ => ⟨_, (pkc (by repeat (first | exact pk_head _ _ | apply pk_tail)) (pkc (by repeat (first | exact pk_head _ _ | apply pk_tail)) (pkn _)))⟩, ?_⟩
          refine H_branch (rs := [3]) (by kernel_rfl) (by simp) ?_
          refine HR.cons1 (i := 3) (some 57) rfl rfl rfl (os_call0 (digits_spec b hb) Try.func14 (by decide +kernel) rfl rfl) (pkc (by repeat (first | exact pk_head _ _ | apply pk_tail)) (pkc (by repeat (first | exact pk_head _ _ | apply pk_tail)) (pkn _))) ?_ ?_
          · skip
            refine H_branch (rs := [6]) (by kernel_rfl) (by simp) ?_
            refine HR.cons1 (i := 6) none rfl rfl rfl (os_storeAll (b := b8) (vs := icells (dgs a)) (by repeat (first | exact pk_head _ _ | apply pk_tail)) (by rw [icells_len]; exact T.sz24) rfl rfl (icells_one _) (by rw [icells_len]; rfl)) (pkc (by repeat (first | exact pk_head _ _ | apply pk_tail)) (pkc (by repeat (first | exact pk_head _ _ | apply pk_tail)) (pkn _))) ?_ ?_
            · skip
              refine H_branch (rs := [7]) (by kernel_rfl) (by simp) ?_
              refine HR.cons1 (i := 7) none rfl rfl rfl (os_storeAll (b := b9) (vs := icells (dgs b)) (by repeat (first | exact pk_head _ _ | apply pk_tail)) (by rw [icells_len]; exact T.sz24) rfl rfl (icells_one _) (by rw [icells_len]; rfl)) (pkc (by repeat (first | exact pk_head _ _ | apply pk_tail)) (pkc (by repeat (first | exact pk_head _ _ | apply pk_tail)) (pkn _))) ?_ ?_
              · skip
                refine H_done (by kernel_rfl) ?_
                exact Meet.cut (b8, b9) trivial (by repeat (first | (with_reducible exact Ag.refl _ _) | (with_reducible apply Ag.pu0) | ((with_reducible refine Ag.pu _ ?_ ?_); · exact rfl) | ((with_reducible refine Ag.mix ?_ ?_); · exact rfl) | ((with_reducible refine Ag.pus ?_ ?_); · exact rfl))) ⟨rfl, rfl, trivial⟩ (by repeat (first | exact Ent.refl _ | (apply Ent.cons; · repeat (first | exact pk_head _ _ | apply pk_tail)) | apply Ent.skip))
              exact HR.nil
            exact HR.nil
          exact HR.nil
        exact HR.nil
      exact HR.nil
    refine HR.consE (i := 4) (some 8) rfl rfl rfl (os_alloc T.ti24) ?_ ?_
    · rintro _ _ ⟨b8, rfl, rfl⟩
      refine ⟨fun _ => ⟨_, (pkc (by repeat (first | exact pk_head _ _ | apply pk_tail)) (pkc (by repeat (first | exact pk_head _ _ | apply pk_tail)) (pkn _)))⟩, ?_⟩
      refine H_branch (rs := [1, 5]) (by kernel_rfl) (by simp) ?_
      refine HR.cons1 (i := 1) (some 55) rfl rfl rfl (os_call0 (digits_spec a ha) Try.func14 (by decide +kernel) rfl rfl) (pkc (by repeat (first | exact pk_head _ _ | apply pk_tail)) (pkc (by repeat (first | exact pk_head _ _ | apply pk_tail)) (pkn _))) ?_ ?_
      · skip
        refine H_branch (rs := [3, 5]) (by kernel_rfl) (by simp) ?_
        refine HR.cons1 (i := 3) (some 57) rfl rfl rfl (os_call0 (digits_spec b hb) Try.func14 (by decide +kernel) rfl rfl) (pkc (by repeat (first | exact pk_head _ _ | apply pk_tail)) (pkc (by repeat (first | exact pk_head _ _ | apply pk_tail)) (pkn _))) ?_ ?_
        · skip
          refine H_branch (rs := [5]) (by kernel_rfl) (by simp) ?_
          refine HR.consE (i := 5) (some 9) rfl rfl rfl (os_alloc T.ti24) ?_ ?_
          · rintro _ _ ⟨b9, rfl, rfl⟩
            refine ⟨fun _ => ⟨_, (pkc (by repeat (first | exact pk_head _ _ | apply pk_tail)) (pkc (by repeat (first | exact pk_head _ _ | apply pk_tail)) (pkn _)))⟩, ?_⟩
            refine H_branch (rs := [6]) (by kernel_rfl) (by simp) ?_
            refine HR.cons1 (i := 6) none rfl rfl rfl (os_storeAll (b := b8) (vs := icells (dgs a)) (by repeat (first | exact pk_head _ _ | apply pk_tail)) (by rw [icells_len]; exact T.sz24) rfl rfl (icells_one _) (by rw [icells_len]; rfl)) (pkc (by repeat (first | exact pk_head _ _ | apply pk_tail)) (pkc (by repeat (first | exact pk_head _ _ | apply pk_tail)) (pkn _))) ?_ ?_
            · skip
              refine H_branch (rs := [7]) (by kernel_rfl) (by simp) ?_
              refine HR.cons1 (i := 7) none rfl rfl rfl (os_storeAll (b := b9) (vs := icells (dgs b)) (by repeat (first | exact pk_head _ _ | apply pk_tail)) (by rw [icells_len]; exact T.sz24) rfl rfl (icells_one _) (by rw [icells_len]; rfl)) (pkc (by repeat (first | exact pk_head _ _ | apply pk_tail)) (pkc (by repeat (first | exact pk_head _ _ | apply pk_tail)) (pkn _))) ?_ ?_
              · skip
                refine H_done (by kernel_rfl) ?_
                exact Meet.cut (b8, b9) trivial (by repeat (first | (with_reducible exact Ag.refl _ _) | (with_reducible apply Ag.pu0) | ((with_reducible refine Ag.pu _ ?_ ?_); · exact rfl) | ((with_reducible refine Ag.mix ?_ ?_); · exact rfl) | ((with_reducible refine Ag.pus ?_ ?_); · exact rfl))) ⟨rfl, rfl, trivial⟩ (by repeat (first | exact Ent.refl _ | (apply Ent.cons; · repeat (first | exact pk_head _ _ | apply pk_tail)) | apply Ent.skip))
              exact HR.nil
            exact HR.nil
          exact HR.nil
        refine HR.consE (i := 5) (some 9) rfl rfl rfl (os_alloc T.ti24) ?_ ?_
        · rintro _ _ ⟨b9, rfl, rfl⟩
          refine ⟨fun _ => ⟨_, (pkc (by repeat (first | exact pk_head _ _ | apply pk_tail)) (pkc (by repeat (first | exact pk_head _ _ | apply pk_tail)) (pkn _)))⟩, ?_⟩
          refine H_branch (rs := [3]) (by kernel_rfl) (by simp) ?_
          refine HR.cons1 (i := 3) (some 57) rfl rfl rfl (os_call0 (digits_spec b hb) Try.func14 (by decide +kernel) rfl rfl) (pkc (by repeat (first | exact pk_head _ _ | apply pk_tail)) (pkc (by repeat (first | exact pk_head _ _ | apply pk_tail)) (pkn _))) ?_ ?_
          · skip
            refine H_branch (rs := [6]) (by kernel_rfl) (by simp) ?_
            refine HR.cons1 (i := 6) none rfl rfl rfl (os_storeAll (b := b8) (vs := icells (dgs a)) (by repeat (first | exact pk_head _ _ | apply pk_tail)) (by rw [icells_len]; exact T.sz24) rfl rfl (icells_one _) (by rw [icells_len]; rfl)) (pkc (by repeat (first | exact pk_head _ _ | apply pk_tail)) (pkc (by repeat (first | exact pk_head _ _ | apply pk_tail)) (pkn _))) ?_ ?_
            · skip
              refine H_branch (rs := [7]) (by kernel_rfl) (by simp) ?_
              refine HR.cons1 (i := 7) none rfl rfl rfl (os_storeAll (b := b9) (vs := icells (dgs b)) (by repeat (first | exact pk_head _ _ | apply pk_tail)) (by rw [icells_len]; exact T.sz24) rfl rfl (icells_one _) (by rw [icells_len]; rfl)) (pkc (by repeat (first | exact pk_head _ _ | apply pk_tail)) (pkc (by repeat (first | exact pk_head _ _ | apply pk_tail)) (pkn _))) ?_ ?_
              · skip
                refine H_done (by kernel_rfl) ?_
                exact Meet.cut (b8, b9) trivial (by repeat (first | (with_reducible exact Ag.refl _ _) | (with_reducible apply Ag.pu0) | ((with_reducible refine Ag.pu _ ?_ ?_); · exact rfl) | ((with_reducible refine Ag.mix ?_ ?_); · exact rfl) | ((with_reducible refine Ag.pus ?_ ?_); · exact rfl))) ⟨rfl, rfl, trivial⟩ (by repeat (first | exact Ent.refl _ | (apply Ent.cons; · repeat (first | exact pk_head _ _ | apply pk_tail)) | apply Ent.skip))
              exact HR.nil
            exact HR.nil
          exact HR.nil
        exact HR.nil
      refine HR.consE (i := 5) (some 9) rfl rfl rfl (os_alloc T.ti24) ?_ ?_
      · rintro _ _ ⟨b9, rfl, rfl⟩
        refine ⟨fun _ => ⟨_, (pkc (by repeat (first | exact pk_head _ _ | apply pk_tail)) (pkc (by repeat (first | exact pk_head _ _ | apply pk_tail)) (pkn _)))⟩, ?_⟩
        refine H_branch (rs := [1]) (by kernel_rfl) (by simp) ?_
        refine HR.cons1 (i := 1) (some 55) rfl rfl rfl (os_call0 (digits_spec a ha) Try.func14 (by decide +kernel) rfl rfl) (pkc (by repeat (first | exact pk_head _ _ | apply pk_tail)) (pkc (by repeat (first | exact pk_head _ _ | apply pk_tail)) (pkn _))) ?_ ?_
        · skip
          refine H_branch (rs := [3]) (by kernel_rfl) (by simp) ?_
          refine HR.cons1 (i := 3) (some 57) rfl rfl rfl (os_call0 (digits_spec b hb) Try.func14 (by decide +kernel) rfl rfl) (pkc (by repeat (first | exact pk_head _ _ | apply pk_tail)) (pkc (by repeat (first | exact pk_head _ _ | apply pk_tail)) (pkn _))) ?_ ?_
          · skip
            refine H_branch (rs := [6]) (by kernel_rfl) (by simp) ?_
            refine HR.cons1 (i := 6) none rfl rfl rfl (os_storeAll (b := b8) (vs := icells (dgs a)) (by repeat (first | exact pk_head _ _ | apply pk_tail)) (by rw [icells_len]; exact T.sz24) rfl rfl (icells_one _) (by rw [icells_len]; rfl)) (pkc (by repeat (first | exact pk_head _ _ | apply pk_tail)) (pkc (by repeat (first | exact pk_head _ _ | apply pk_tail)) (pkn _))) ?_ ?_
            · skip
              refine H_branch (rs := [7]) (by kernel_rfl) (by simp) ?_
              refine HR.cons1 (i := 7) none rfl rfl rfl (os_storeAll (b := b9) (vs := icells (dgs b)) (by repeat (first | exact pk_head _ _ | apply pk_tail)) (by rw [icells_len]; exact T.sz24) rfl rfl (icells_one _) (by rw [icells_len]; rfl)) (pkc (by repeat (first | exact pk_head _ _ | apply pk_tail)) (pkc (by repeat (first | exact pk_head _ _ | apply pk_tail)) (pkn _))) ?_ ?_
              · skip
                refine H_done (by kernel_rfl) ?_
                exact Meet.cut (b8, b9) trivial (by repeat (first | (with_reducible exact Ag.refl _ _) | (with_reducible apply Ag.pu0) | ((with_reducible refine Ag.pu _ ?_ ?_); · exact rfl) | ((with_reducible refine Ag.mix ?_ ?_); · exact rfl) | ((with_reducible refine Ag.pus ?_ ?_); · exact rfl))) ⟨rfl, rfl, trivial⟩ (by repeat (first | exact Ent.refl _ | (apply Ent.cons; · repeat (first | exact pk_head _ _ | apply pk_tail)) | apply Ent.skip))
              exact HR.nil
            exact HR.nil
          exact HR.nil
        exact HR.nil
      exact HR.nil
    refine HR.consE (i := 5) (some 9) rfl rfl rfl (os_alloc T.ti24) ?_ ?_
    · rintro _ _ ⟨b9, rfl, rfl⟩
      refine ⟨fun _ => ⟨_, (pkc (by repeat (first | exact pk_head _ _ | apply pk_tail)) (pkc (by repeat (first | exact pk_head _ _ | apply pk_tail)) (pkn _)))⟩, ?_⟩
      refine H_branch (rs := [1, 4]) (by kernel_rfl) (by simp) ?_
      refine HR.cons1 (i := 1) (some 55) rfl rfl rfl (os_call0 (digits_spec a ha) Try.func14 (by decide +kernel) rfl rfl) (pkc (by repeat (first | exact pk_head _ _ | apply pk_tail)) (pkc (by repeat (first | exact pk_head _ _ | apply pk_tail)) (pkn _))) ?_ ?_
      · skip
        refine H_branch (rs := [3, 4]) (by kernel_rfl) (by simp) ?_
        refine HR.cons1 (i := 3) (some 57) rfl rfl rfl (os_call0 (digits_spec b hb) Try.func14 (by decide +kernel) rfl rfl) (pkc (by repeat (first | exact pk_head _ _ | apply pk_tail)) (pkc (by repeat (first | exact pk_head _ _ | apply pk_tail)) (pkn _))) ?_ ?_
        · skip
          refine H_branch (rs := [4]) (by kernel_rfl) (by simp) ?_
          refine HR.consE (i := 4) (some 8) rfl rfl rfl (os_alloc T.ti24) ?_ ?_
          · rintro _ _ ⟨b8, rfl, rfl⟩
            refine ⟨fun _ => ⟨_, (pkc (by repeat (first | exact pk_head _ _ | apply pk_tail)) (pkc (by repeat (first | exact pk_head _ _ | apply pk_tail)) (pkn _)))⟩, ?_⟩
            refine H_branch (rs := [6]) (by kernel_rfl) (by simp) ?_
            refine HR.cons1 (i := 6) none rfl rfl rfl (os_storeAll (b := b8) (vs := icells (dgs a)) (by repeat (first | exact pk_head _ _ | apply pk_tail)) (by rw [icells_len]; exact T.sz24) rfl rfl (icells_one _) (by rw [icells_len]; rfl)) (pkc (by repeat (first | exact pk_head _ _ | apply pk_tail)) (pkc (by repeat (first | exact pk_head _ _ | apply pk_tail)) (pkn _))) ?_ ?_
            · skip
              refine H_branch (rs := [7]) (by kernel_rfl) (by simp) ?_
              refine HR.cons1 (i := 7) none rfl rfl rfl (os_storeAll (b := b9) (vs := icells (dgs b)) (by repeat (first | exact pk_head _ _ | apply pk_tail)) (by rw [icells_len]; exact T.sz24) rfl rfl (icells_one _) (by rw [icells_len]; rfl)) (pkc (by repeat (first | exact pk_head _ _ | apply pk_tail)) (pkc (by repeat (first | exact pk_head _ _ | apply pk_tail)) (pkn _))) ?_ ?_
              · skip
                refine H_done (by kernel_rfl) ?_
                exact Meet.cut (b8, b9) trivial (by repeat (first | (with_reducible exact Ag.refl _ _) | (with_reducible apply Ag.pu0) | ((with_reducible refine Ag.pu _ ?_ ?_); · exact rfl) | ((with_reducible refine Ag.mix ?_ ?_); · exact rfl) | ((with_reducible refine Ag.pus ?_ ?_); · exact rfl))) ⟨rfl, rfl, trivial⟩ (by repeat (first | exact Ent.refl _ | (apply Ent.cons; · repeat (first | exact pk_head _ _ | apply pk_tail)) | apply Ent.skip))
              exact HR.nil
            exact HR.nil
          exact HR.nil
        refine HR.consE (i := 4) (some 8) rfl rfl rfl (os_alloc T.ti24) ?_ ?_
        · rintro _ _ ⟨b8, rfl, rfl⟩
          refine ⟨fun _ => ⟨_, (pkc (by repeat (first | exact pk_head _ _ | apply pk_tail)) (pkc (by repeat (first | exact pk_head _ _ | apply pk_tail)) (pkn _)))⟩, ?_⟩
          refine H_branch (rs := [3]) (by kernel_rfl) (by simp) ?_
          refine HR.cons1 (i := 3) (some 57) rfl rfl rfl (os_call0 (digits_spec b hb) Try.func14 (by decide +kernel) rfl rfl) (pkc (by repeat (first | exact pk_head _ _ | apply pk_tail)) (pkc (by repeat (first | exact pk_head _ _ | apply pk_tail)) (pkn _))) ?_ ?_
          · skip
            refine H_branch (rs := [6]) (by kernel_rfl) (by simp) ?_
            refine HR.cons1 (i := 6) none rfl rfl rfl (os_storeAll (b := b8) (vs := icells (dgs a)) (by repeat (first | exact pk_head _ _ | apply pk_tail)) (by rw [icells_len]; exact T.sz24) rfl rfl (icells_one _) (by rw [icells_len]; rfl)) (pkc (by repeat (first | exact pk_head _ _ | apply pk_tail)) (pkc (by repeat (first | exact pk_head _ _ | apply pk_tail)) (pkn _))) ?_ ?_
            · skip
              refine H_branch (rs := [7]) (by kernel_rfl) (by simp) ?_
              refine HR.cons1 (i := 7) none rfl rfl rfl (os_storeAll (b := b9) (vs := icells (dgs b)) (by repeat (first | exact pk_head _ _ | apply pk_tail)) (by rw [icells_len]; exact T.sz24) rfl rfl (icells_one _) (by rw [icells_len]; rfl)) (pkc (by repeat (first | exact pk_head _ _ | apply pk_tail)) (pkc (by repeat (first | exact pk_head _ _ | apply pk_tail)) (pkn _))) ?_ ?_
              · skip
                refine H_done (by kernel_rfl) ?_
                exact Meet.cut (b8, b9) trivial (by repeat (first | (with_reducible exact Ag.refl _ _) | (with_reducible apply Ag.pu0) | ((with_reducible refine Ag.pu _ ?_ ?_); · exact rfl) | ((with_reducible refine Ag.mix ?_ ?_); · exact rfl) | ((with_reducible refine Ag.pus ?_ ?_); · exact rfl))) ⟨rfl, rfl, trivial⟩ (by repeat (first | exact Ent.refl _ | (apply Ent.cons; · repeat (first | exact pk_head _ _ | apply pk_tail)) | apply Ent.skip))
              exact HR.nil
            exact HR.nil
          exact HR.nil
        exact HR.nil
      refine HR.consE (i := 4) (some 8) rfl rfl rfl (os_alloc T.ti24) ?_ ?_
      · rintro _ _ ⟨b8, rfl, rfl⟩
        refine ⟨fun _ => ⟨_, (pkc (by repeat (first | exact pk_head _ _ | apply pk_tail)) (pkc (by repeat (first | exact pk_head _ _ | apply pk_tail)) (pkn _)))⟩, ?_⟩
        refine H_branch (rs := [1]) (by kernel_rfl) (by simp) ?_
        refine HR.cons1 (i := 1) (some 55) rfl rfl rfl (os_call0 (digits_spec a ha) Try.func14 (by decide +kernel) rfl rfl) (pkc (by repeat (first | exact pk_head _ _ | apply pk_tail)) (pkc (by repeat (first | exact pk_head _ _ | apply pk_tail)) (pkn _))) ?_ ?_
        · skip
          refine H_branch (rs := [3]) (by kernel_rfl) (by simp) ?_
          refine HR.cons1 (i := 3) (some 57) rfl rfl rfl (os_call0 (digits_spec b hb) Try.func14 (by decide +kernel) rfl rfl) (pkc (by repeat (first | exact pk_head _ _ | apply pk_tail)) (pkc (by repeat (first | exact pk_head _ _ | apply pk_tail)) (pkn _))) ?_ ?_
          · skip
            refine H_branch (rs := [6]) (by kernel_rfl) (by simp) ?_
            refine HR.cons1 (i := 6) none rfl rfl rfl (os_storeAll (b := b8) (vs := icells (dgs a)) (by repeat (first | exact pk_head _ _ | apply pk_tail)) (by rw [icells_len]; exact T.sz24) rfl rfl (icells_one _) (by rw [icells_len]; rfl)) (pkc (by repeat (first | exact pk_head _ _ | apply pk_tail)) (pkc (by repeat (first | exact pk_head _ _ | apply pk_tail)) (pkn _))) ?_ ?_
            · skip
              refine H_branch (rs := [7]) (by kernel_rfl) (by simp) ?_
              refine HR.cons1 (i := 7) none rfl rfl rfl (os_storeAll (b := b9) (vs := icells (dgs b)) (by repeat (first | exact pk_head _ _ | apply pk_tail)) (by rw [icells_len]; exact T.sz24) rfl rfl (icells_one _) (by rw [icells_len]; rfl)) (pkc (by repeat (first | exact pk_head _ _ | apply pk_tail)) (pkc (by repeat (first | exact pk_head _ _ | apply pk_tail)) (pkn _))) ?_ ?_
              · skip
                refine H_done (by kernel_rfl) ?_
                exact Meet.cut (b8, b9) trivial (by repeat (first | (with_reducible exact Ag.refl _ _) | (with_reducible apply Ag.pu0) | ((with_reducible refine Ag.pu _ ?_ ?_); · exact rfl) | ((with_reducible refine Ag.mix ?_ ?_); · exact rfl) | ((with_reducible refine Ag.pus ?_ ?_); · exact rfl))) ⟨rfl, rfl, trivial⟩ (by repeat (first | exact Ent.refl _ | (apply Ent.cons; · repeat (first | exact pk_head _ _ | apply pk_tail)) | apply Ent.skip))
              exact HR.nil
            exact HR.nil
          exact HR.nil
        exact HR.nil
      exact HR.nil
    exact HR.nil
  rintro ⟨p8, p9⟩ g7 _
  dsimp only
  repeat (first | refine CW.seq ?_ | refine PW.then_ ?_ | refine CW.block ?_ | refine CW.skip ?_ | refine CW.ret ?_ | refine PW.then_ret ?_ | refine PW.block_ret ?_ | refine Cut.ret ?_ | refine Rnd.ret ?_ | refine PW.block_normal ?_ | refine CW.exit ?_ | refine PW.then_exit ?_ | refine PW.block_hit ?_ | refine PW.block_miss rfl ?_ | refine Cut.exit ?_ | refine Rnd.exit ?_)
  refine CW.region ?_
  refine L1 (ps_assign rfl).os ?_
  refine LW.nil ?_
  repeat (first | refine CW.seq ?_ | refine PW.then_ ?_ | refine CW.block ?_ | refine CW.skip ?_ | refine CW.ret ?_ | refine PW.then_ret ?_ | refine PW.block_ret ?_ | refine Cut.ret ?_ | refine Rnd.ret ?_ | refine PW.block_normal ?_ | refine CW.exit ?_ | refine PW.then_exit ?_ | refine PW.block_hit ?_ | refine PW.block_miss rfl ?_ | refine Cut.exit ?_ | refine Rnd.exit ?_)
  refine CW.region ?_
  refine L1 (ps_move rfl).os ?_
  refine LW.nil ?_
  repeat (first | refine CW.seq ?_ | refine PW.then_ ?_ | refine CW.block ?_ | refine CW.skip ?_ | refine CW.ret ?_ | refine PW.then_ret ?_ | refine PW.block_ret ?_ | refine Cut.ret ?_ | refine Rnd.ret ?_ | refine PW.block_normal ?_ | refine CW.exit ?_ | refine PW.then_exit ?_ | refine PW.block_hit ?_ | refine PW.block_miss rfl ?_ | refine Cut.exit ?_ | refine Rnd.exit ?_)
  refine CW.loopM (α := Nat) [10, 11, 58, 59, 60, 61, 62, 63, 64, 65, 66, 67, 68, 69, 70, 71, 72, 73, 74, 75] (fun k i => i ≤ 16 ∧ k = 16 - i) (fun i => [(58, .int .i64 i), (10, .int .i64 (cmpN (a % 256 ^ i) (b % 256 ^ i)))])
    (fun i => cb p8 24 (icells (dgs a)) :: cb p9 24 (icells (dgs b)) :: cb b2 27 (nc a) :: cb b3 27 (nc b) :: cb b5 27 (nc d) :: bag (blks W) :: F) 16 0 ⟨Nat.zero_le _, rfl⟩ ⟨rfl, (by rw [Nat.pow_zero, Nat.mod_one, Nat.mod_one]; rfl), trivial⟩ (by repeat (first | exact Ent.refl _ | (apply Ent.cons; · repeat (first | exact pk_head _ _ | apply pk_tail)) | apply Ent.skip)) ?_
  rintro k i g ⟨hi, hk⟩
  repeat (first | refine CW.seq ?_ | refine PW.then_ ?_ | refine CW.block ?_ | refine CW.skip ?_ | refine CW.ret ?_ | refine PW.then_ret ?_ | refine PW.block_ret ?_ | refine Cut.ret ?_ | refine Rnd.ret ?_ | refine PW.block_normal ?_ | refine CW.exit ?_ | refine PW.then_exit ?_ | refine PW.block_hit ?_ | refine PW.block_miss rfl ?_ | refine Cut.exit ?_ | refine Rnd.exit ?_)
  by_cases hlt : i < 16
  · have hst := cmp_step a b i
    have ga : (icells (dgs a))[0 + i * 1]? = some (.int .i64 ((dgb a i : Nat) : Int)) := by
      rw [show 0 + i * 1 = i by omega, icells_get _ _ (by omega)]
      unfold dgs; rw [if_pos hlt]
    have gb : (icells (dgs b))[0 + i * 1]? = some (.int .i64 ((dgb b i : Nat) : Int)) := by
      rw [show 0 + i * 1 = i by omega, icells_get _ _ (by omega)]
      unfold dgs; rw [if_pos hlt]
    generalize dgb a i = x at *
    generalize dgb b i = y at *
    generalize icells (dgs a) = ca at *
    generalize icells (dgs b) = cb' at *
    have e67 : decide ((x : Int) ≠ (y : Int)) = decide (x ≠ y) := by rw [decide_eq_decide]; omega
    have e74 : decide ((x : Int) < (y : Int)) = decide (x < y) := by rw [decide_eq_decide]; omega
    refine CW.region ?_
    refine L1 (ps_t (ps_lss rfl rfl) (by omega)).os ?_
    refine LW.nil ?_
    repeat (first | refine CW.seq ?_ | refine PW.then_ ?_ | refine CW.block ?_ | refine CW.skip ?_ | refine CW.ret ?_ | refine PW.then_ret ?_ | refine PW.block_ret ?_ | refine Cut.ret ?_ | refine Rnd.ret ?_ | refine PW.block_normal ?_ | refine CW.exit ?_ | refine PW.then_exit ?_ | refine PW.block_hit ?_ | refine PW.block_miss rfl ?_ | refine Cut.exit ?_ | refine Rnd.exit ?_)
    refine CW.cond_true rfl ?_
    repeat (first | refine CW.seq ?_ | refine PW.then_ ?_ | refine CW.block ?_ | refine CW.skip ?_ | refine CW.ret ?_ | refine PW.then_ret ?_ | refine PW.block_ret ?_ | refine Cut.ret ?_ | refine Rnd.ret ?_ | refine PW.block_normal ?_ | refine CW.exit ?_ | refine PW.then_exit ?_ | refine PW.block_hit ?_ | refine PW.block_miss rfl ?_ | refine Cut.exit ?_ | refine Rnd.exit ?_)
    refine CW.region ?_
    refine L1 (ps_move rfl).os ?_
    refine L1 (ps_assign rfl).os ?_
    refine LW.nil ?_
    repeat (first | refine CW.seq ?_ | refine PW.then_ ?_ | refine CW.block ?_ | refine CW.skip ?_ | refine CW.ret ?_ | refine PW.then_ret ?_ | refine PW.block_ret ?_ | refine Cut.ret ?_ | refine Rnd.ret ?_ | refine PW.block_normal ?_ | refine CW.exit ?_ | refine PW.then_exit ?_ | refine PW.block_hit ?_ | refine PW.block_miss rfl ?_ | refine Cut.exit ?_ | refine Rnd.exit ?_)
    refine CW.cutB (α := Unit) [61, 62, 63, 64, 65, 66, 67] (fun _ => True) (fun _ => [(67, .bool (decide (x ≠ y)))]) (fun _ => cb p8 24 ca :: cb p9 24 cb' :: cb b2 27 (nc a) :: cb b3 27 (nc b) :: cb b5 27 (nc d) :: bag (blks W) :: F) ?_ ?_
    · refine CW.drawH [cb p8 24 ca, cb p9 24 cb'] [] T.mixed ?_
      refine H_take (i := 0) (some 61) rfl rfl (by kernel_rfl) (by kernel_rfl) (by kernel_rfl) rfl (ps_move rfl).pl (by kernel_rfl) (pkc (by repeat (first | exact pk_head _ _ | apply pk_tail)) (pkc (by repeat (first | exact pk_head _ _ | apply pk_tail)) (pkn _))) ?_
      refine H_take (i := 1) (some 62) rfl rfl (by kernel_rfl) (by kernel_rfl) (by kernel_rfl) rfl (ps_ia_arr T.un24 T.sz3 rfl rfl (by omega) (by omega)).pl (by kernel_rfl) (pkc (by repeat (first | exact pk_head _ _ | apply pk_tail)) (pkc (by repeat (first | exact pk_head _ _ | apply pk_tail)) (pkn _))) ?_
      refine H_take (i := 2) (some 63) rfl rfl (by kernel_rfl) (by kernel_rfl) (by kernel_rfl) rfl (pl_load1 (b := p8) (by repeat (first | exact pk_head _ _ | apply pk_tail)) T.ag3 rfl ga) (by kernel_rfl) (pkc (by repeat (first | exact pk_head _ _ | apply pk_tail)) (pkc (by repeat (first | exact pk_head _ _ | apply pk_tail)) (pkn _))) ?_
      refine H_take (i := 3) (some 64) rfl rfl (by kernel_rfl) (by kernel_rfl) (by kernel_rfl) rfl (ps_move rfl).pl (by kernel_rfl) (pkc (by repeat (first | exact pk_head _ _ | apply pk_tail)) (pkc (by repeat (first | exact pk_head _ _ | apply pk_tail)) (pkn _))) ?_
      refine H_take (i := 4) (some 65) rfl rfl (by kernel_rfl) (by kernel_rfl) (by kernel_rfl) rfl (ps_ia_arr T.un24 T.sz3 rfl rfl (by omega) (by omega)).pl (by kernel_rfl) (pkc (by repeat (first | exact pk_head _ _ | apply pk_tail)) (pkc (by repeat (first | exact pk_head _ _ | apply pk_tail)) (pkn _))) ?_
      refine H_take (i := 5) (some 66) rfl rfl (by kernel_rfl) (by kernel_rfl) (by kernel_rfl) rfl (pl_load1 (b := p9) (by repeat (first | exact pk_head _ _ | apply pk_tail)) T.ag3 rfl gb) (by kernel_rfl) (pkc (by repeat (first | exact pk_head _ _ | apply pk_tail)) (pkc (by repeat (first | exact pk_head _ _ | apply pk_tail)) (pkn _))) ?_
      refine H_take (i := 6) (some 67) rfl rfl (by kernel_rfl) (by kernel_rfl) (by kernel_rfl) rfl (ps_to (congrArg Value.bool e67) (ps_neq rfl rfl)).pl (by kernel_rfl) (pkc (by repeat (first | exact pk_head _ _ | apply pk_tail)) (pkc (by repeat (first | exact pk_head _ _ | apply pk_tail)) (pkn _))) ?_
      refine H_done (by kernel_rfl) ?_
      exact Meet.cut () trivial (by repeat (first | (with_reducible exact Ag.refl _ _) | (with_reducible apply Ag.pu0) | ((with_reducible refine Ag.pu _ ?_ ?_); · exact rfl) | ((with_reducible refine Ag.mix ?_ ?_); · exact rfl) | ((with_reducible refine Ag.pus ?_ ?_); · exact rfl))) ⟨rfl, trivial⟩ (by repeat (first | exact Ent.refl _ | (apply Ent.cons; · repeat (first | exact pk_head _ _ | apply pk_tail)) | apply Ent.skip))
    intro _ _ _
    repeat (first | refine CW.seq ?_ | refine PW.then_ ?_ | refine CW.block ?_ | refine CW.skip ?_ | refine CW.ret ?_ | refine PW.then_ret ?_ | refine PW.block_ret ?_ | refine Cut.ret ?_ | refine Rnd.ret ?_ | refine PW.block_normal ?_ | refine CW.exit ?_ | refine PW.then_exit ?_ | refine PW.block_hit ?_ | refine PW.block_miss rfl ?_ | refine Cut.exit ?_ | refine Rnd.exit ?_)
    by_cases hxy : x = y
    · rw [if_pos hxy] at hst
      rw [show decide (x ≠ y) = false from decide_eq_false (fun h => h hxy)]
      refine CW.cond_false rfl ?_
      repeat (first | refine CW.seq ?_ | refine PW.then_ ?_ | refine CW.block ?_ | refine CW.skip ?_ | refine CW.ret ?_ | refine PW.then_ret ?_ | refine PW.block_ret ?_ | refine Cut.ret ?_ | refine Rnd.ret ?_ | refine PW.block_normal ?_ | refine CW.exit ?_ | refine PW.then_exit ?_ | refine PW.block_hit ?_ | refine PW.block_miss rfl ?_ | refine Cut.exit ?_ | refine Rnd.exit ?_)
      refine CW.region ?_
      refine L1 (ps_add_i64 rfl rfl (by omega) (by omega)).os ?_
      refine L1 (ps_move rfl).os ?_
      refine LW.nil ?_
      exact Meet.round (16 - (i + 1)) (i + 1) (by omega) ⟨hlt, rfl⟩ (by repeat (first | (with_reducible exact Ag.refl _ _) | (with_reducible apply Ag.pu0) | ((with_reducible refine Ag.pu _ ?_ ?_); · exact rfl) | ((with_reducible refine Ag.mix ?_ ?_); · exact rfl) | ((with_reducible refine Ag.pus ?_ ?_); · exact rfl))) ⟨rfl, congrArg (Value.int .i64) hst.symm, trivial⟩ (by repeat (first | exact Ent.refl _ | (apply Ent.cons; · repeat (first | exact pk_head _ _ | apply pk_tail)) | apply Ent.skip))
    rw [if_neg hxy] at hst
    rw [show decide (x ≠ y) = true from decide_eq_true hxy]
    refine CW.cond_true rfl ?_
    repeat (first | refine CW.seq ?_ | refine PW.then_ ?_ | refine CW.block ?_ | refine CW.skip ?_ | refine CW.ret ?_ | refine PW.then_ret ?_ | refine PW.block_ret ?_ | refine Cut.ret ?_ | refine Rnd.ret ?_ | refine PW.block_normal ?_ | refine CW.exit ?_ | refine PW.then_exit ?_ | refine PW.block_hit ?_ | refine PW.block_miss rfl ?_ | refine Cut.exit ?_ | refine Rnd.exit ?_)
    refine CW.region ?_
    refine L1 (ps_assign rfl).os ?_
    refine LW.nil ?_
    repeat (first | refine CW.seq ?_ | refine PW.then_ ?_ | refine CW.block ?_ | refine CW.skip ?_ | refine CW.ret ?_ | refine PW.then_ret ?_ | refine PW.block_ret ?_ | refine Cut.ret ?_ | refine Rnd.ret ?_ | refine PW.block_normal ?_ | refine CW.exit ?_ | refine PW.then_exit ?_ | refine PW.block_hit ?_ | refine PW.block_miss rfl ?_ | refine Cut.exit ?_ | refine Rnd.exit ?_)
    refine CW.cutB (α := Unit) [68, 69, 70, 71, 72, 73, 74] (fun _ => True) (fun _ => [(74, .bool (decide (x < y)))]) (fun _ => cb p8 24 ca :: cb p9 24 cb' :: cb b2 27 (nc a) :: cb b3 27 (nc b) :: cb b5 27 (nc d) :: bag (blks W) :: F) ?_ ?_
    · refine CW.drawH [cb p8 24 ca, cb p9 24 cb'] [] T.mixed ?_
      refine H_take (i := 0) (some 68) rfl rfl (by kernel_rfl) (by kernel_rfl) (by kernel_rfl) rfl (ps_move rfl).pl (by kernel_rfl) (pkc (by repeat (first | exact pk_head _ _ | apply pk_tail)) (pkc (by repeat (first | exact pk_head _ _ | apply pk_tail)) (pkn _))) ?_
      refine H_take (i := 1) (some 69) rfl rfl (by kernel_rfl) (by kernel_rfl) (by kernel_rfl) rfl (ps_ia_arr T.un24 T.sz3 rfl rfl (by omega) (by omega)).pl (by kernel_rfl) (pkc (by repeat (first | exact pk_head _ _ | apply pk_tail)) (pkc (by repeat (first | exact pk_head _ _ | apply pk_tail)) (pkn _))) ?_
      refine H_take (i := 2) (some 70) rfl rfl (by kernel_rfl) (by kernel_rfl) (by kernel_rfl) rfl (pl_load1 (b := p8) (by repeat (first | exact pk_head _ _ | apply pk_tail)) T.ag3 rfl ga) (by kernel_rfl) (pkc (by repeat (first | exact pk_head _ _ | apply pk_tail)) (pkc (by repeat (first | exact pk_head _ _ | apply pk_tail)) (pkn _))) ?_
      refine H_take (i := 3) (some 71) rfl rfl (by kernel_rfl) (by kernel_rfl) (by kernel_rfl) rfl (ps_move rfl).pl (by kernel_rfl) (pkc (by repeat (first | exact pk_head _ _ | apply pk_tail)) (pkc (by repeat (first | exact pk_head _ _ | apply pk_tail)) (pkn _))) ?_
      refine H_take (i := 4) (some 72) rfl rfl (by kernel_rfl) (by kernel_rfl) (by kernel_rfl) rfl (ps_ia_arr T.un24 T.sz3 rfl rfl (by omega) (by omega)).pl (by kernel_rfl) (pkc (by repeat (first | exact pk_head _ _ | apply pk_tail)) (pkc (by repeat (first | exact pk_head _ _ | apply pk_tail)) (pkn _))) ?_
      refine H_take (i := 5) (some 73) rfl rfl (by kernel_rfl) (by kernel_rfl) (by kernel_rfl) rfl (pl_load1 (b := p9) (by repeat (first | exact pk_head _ _ | apply pk_tail)) T.ag3 rfl gb) (by kernel_rfl) (pkc (by repeat (first | exact pk_head _ _ | apply pk_tail)) (pkc (by repeat (first | exact pk_head _ _ | apply pk_tail)) (pkn _))) ?_
      refine H_take (i := 6) (some 74) rfl rfl (by kernel_rfl) (by kernel_rfl) (by kernel_rfl) rfl (ps_to (congrArg Value.bool e74) (ps_lss rfl rfl)).pl (by kernel_rfl) (pkc (by repeat (first | exact pk_head _ _ | apply pk_tail)) (pkc (by repeat (first | exact pk_head _ _ | apply pk_tail)) (pkn _))) ?_
      refine H_done (by kernel_rfl) ?_
      exact Meet.cut () trivial (by repeat (first | (with_reducible exact Ag.refl _ _) | (with_reducible apply Ag.pu0) | ((with_reducible refine Ag.pu _ ?_ ?_); · exact rfl) | ((with_reducible refine Ag.mix ?_ ?_); · exact rfl) | ((with_reducible refine Ag.pus ?_ ?_); · exact rfl))) ⟨rfl, trivial⟩ (by repeat (first | exact Ent.refl _ | (apply Ent.cons; · repeat (first | exact pk_head _ _ | apply pk_tail)) | apply Ent.skip))
    intro _ _ _
    repeat (first | refine CW.seq ?_ | refine PW.then_ ?_ | refine CW.block ?_ | refine CW.skip ?_ | refine CW.ret ?_ | refine PW.then_ret ?_ | refine PW.block_ret ?_ | refine Cut.ret ?_ | refine Rnd.ret ?_ | refine PW.block_normal ?_ | refine CW.exit ?_ | refine PW.then_exit ?_ | refine PW.block_hit ?_ | refine PW.block_miss rfl ?_ | refine Cut.exit ?_ | refine Rnd.exit ?_)
    by_cases hl : x < y
    · rw [if_pos hl] at hst
      rw [show decide (x < y) = true from decide_eq_true hl]
      refine CW.cond_true rfl ?_
      repeat (first | refine CW.seq ?_ | refine PW.then_ ?_ | refine CW.block ?_ | refine CW.skip ?_ | refine CW.ret ?_ | refine PW.then_ret ?_ | refine PW.block_ret ?_ | refine Cut.ret ?_ | refine Rnd.ret ?_ | refine PW.block_normal ?_ | refine CW.exit ?_ | refine PW.then_exit ?_ | refine PW.block_hit ?_ | refine PW.block_miss rfl ?_ | refine Cut.exit ?_ | refine Rnd.exit ?_)
      refine CW.region ?_
      refine L1 (ps_assign rfl).os ?_
      refine LW.nil ?_
      repeat (first | refine CW.seq ?_ | refine PW.then_ ?_ | refine CW.block ?_ | refine CW.skip ?_ | refine CW.ret ?_ | refine PW.then_ret ?_ | refine PW.block_ret ?_ | refine Cut.ret ?_ | refine Rnd.ret ?_ | refine PW.block_normal ?_ | refine CW.exit ?_ | refine PW.then_exit ?_ | refine PW.block_hit ?_ | refine PW.block_miss rfl ?_ | refine Cut.exit ?_ | refine Rnd.exit ?_)
      refine CW.region ?_
      refine L1 (ps_add_i64 rfl rfl (by omega) (by omega)).os ?_
      refine L1 (ps_move rfl).os ?_
      refine LW.nil ?_
      exact Meet.round (16 - (i + 1)) (i + 1) (by omega) ⟨hlt, rfl⟩ (by repeat (first | (with_reducible exact Ag.refl _ _) | (with_reducible apply Ag.pu0) | ((with_reducible refine Ag.pu _ ?_ ?_); · exact rfl) | ((with_reducible refine Ag.mix ?_ ?_); · exact rfl) | ((with_reducible refine Ag.pus ?_ ?_); · exact rfl))) ⟨rfl, congrArg (Value.int .i64) hst.symm, trivial⟩ (by repeat (first | exact Ent.refl _ | (apply Ent.cons; · repeat (first | exact pk_head _ _ | apply pk_tail)) | apply Ent.skip))
    rw [if_neg hl] at hst
    rw [show decide (x < y) = false from decide_eq_false hl]
    refine CW.cond_false rfl ?_
    repeat (first | refine CW.seq ?_ | refine PW.then_ ?_ | refine CW.block ?_ | refine CW.skip ?_ | refine CW.ret ?_ | refine PW.then_ret ?_ | refine PW.block_ret ?_ | refine Cut.ret ?_ | refine Rnd.ret ?_ | refine PW.block_normal ?_ | refine CW.exit ?_ | refine PW.then_exit ?_ | refine PW.block_hit ?_ | refine PW.block_miss rfl ?_ | refine Cut.exit ?_ | refine Rnd.exit ?_)
    refine CW.region ?_
    refine L1 (ps_add_i64 rfl rfl (by omega) (by omega)).os ?_
    refine L1 (ps_move rfl).os ?_
    refine LW.nil ?_
    exact Meet.round (16 - (i + 1)) (i + 1) (by omega) ⟨hlt, rfl⟩ (by repeat (first | (with_reducible exact Ag.refl _ _) | (with_reducible apply Ag.pu0) | ((with_reducible refine Ag.pu _ ?_ ?_); · exact rfl) | ((with_reducible refine Ag.mix ?_ ?_); · exact rfl) | ((with_reducible refine Ag.pus ?_ ?_); · exact rfl))) ⟨rfl, congrArg (Value.int .i64) hst.symm, trivial⟩ (by repeat (first | exact Ent.refl _ | (apply Ent.cons; · repeat (first | exact pk_head _ _ | apply pk_tail)) | apply Ent.skip))
  · have hil : i = 16 := by omega
    subst hil
    have htop := cmp_top a b ha hb
    generalize cmpN (a % 256 ^ 16) (b % 256 ^ 16) = z at *
    subst htop
    refine CW.region ?_
    refine L1 (ps_f (ps_lss rfl rfl) (by decide)).os ?_
    refine LW.nil ?_
    repeat (first | refine CW.seq ?_ | refine PW.then_ ?_ | refine CW.block ?_ | refine CW.skip ?_ | refine CW.ret ?_ | refine PW.then_ret ?_ | refine PW.block_ret ?_ | refine Cut.ret ?_ | refine Rnd.ret ?_ | refine PW.block_normal ?_ | refine CW.exit ?_ | refine PW.then_exit ?_ | refine PW.block_hit ?_ | refine PW.block_miss rfl ?_ | refine Cut.exit ?_ | refine Rnd.exit ?_)
    refine CW.cond_false rfl ?_
    repeat (first | refine CW.seq ?_ | refine PW.then_ ?_ | refine CW.block ?_ | refine CW.skip ?_ | refine CW.ret ?_ | refine PW.then_ret ?_ | refine PW.block_ret ?_ | refine Cut.ret ?_ | refine Rnd.ret ?_ | refine PW.block_normal ?_ | refine CW.exit ?_ | refine PW.then_exit ?_ | refine PW.block_hit ?_ | refine PW.block_miss rfl ?_ | refine Cut.exit ?_ | refine Rnd.exit ?_)
    refine CW.region ?_
    refine L1 (ps_move rfl).os ?_
    refine L1 (ps_move rfl).os ?_
    refine L1 (ps_f (ps_neq rfl rfl) (fun h => h rfl)).os ?_
    refine LW.nil ?_
    repeat (first | refine CW.seq ?_ | refine PW.then_ ?_ | refine CW.block ?_ | refine CW.skip ?_ | refine CW.ret ?_ | refine PW.then_ret ?_ | refine PW.block_ret ?_ | refine Cut.ret ?_ | refine Rnd.ret ?_ | refine PW.block_normal ?_ | refine CW.exit ?_ | refine PW.then_exit ?_ | refine PW.block_hit ?_ | refine PW.block_miss rfl ?_ | refine Cut.exit ?_ | refine Rnd.exit ?_)
    refine CW.cond_false rfl ?_
    repeat (first | refine CW.seq ?_ | refine PW.then_ ?_ | refine CW.block ?_ | refine CW.skip ?_ | refine CW.ret ?_ | refine PW.then_ret ?_ | refine PW.block_ret ?_ | refine Cut.ret ?_ | refine Rnd.ret ?_ | refine PW.block_normal ?_ | refine CW.exit ?_ | refine PW.then_exit ?_ | refine PW.block_hit ?_ | refine PW.block_miss rfl ?_ | refine Cut.exit ?_ | refine Rnd.exit ?_)
    refine CW.region ?_
    refine L1 (os_loadAll (by repeat (first | exact pk_head _ _ | apply pk_tail)) T.ag27 (by exact T.sz27) rfl) ?_
    refine L1 (os_loadAll (by repeat (first | exact pk_head _ _ | apply pk_tail)) T.ag27 (by exact T.sz27) rfl) ?_
    refine LE (os_bslR ([d, b].map nc) T.un22 T.ti27 (by rfl) (by rfl) (by simp [nc_len]) (by decide) (by decide)) ?_
    rintro _ _ ⟨b82, rfl, rfl⟩
    refine L1 (os_call1 (Add_row [d, b] rfl (by simp) hdM hadd2) Try.func15 (by decide +kernel) rfl rfl (by repeat (first | exact pk_head _ _ | apply pk_tail))) ?_
    refine L1 (ps_move rfl).os ?_
    refine L1 (ps_extract rfl rfl).os ?_
    refine L1 (ps_extract rfl rfl).os ?_
    refine LE (os_alloc T.ti27) ?_
    rintro _ _ ⟨b12, rfl, rfl⟩
    refine L1 (os_storeAll (b := b12) (vs := nc (addN [d, b]).1) (by repeat (first | exact pk_head _ _ | apply pk_tail)) (by exact T.sz27) rfl rfl (nc_one _) (by rfl)) ?_
    refine L1 (ps_assign rfl).os ?_
    refine LW.nil ?_
    repeat (first | refine CW.seq ?_ | refine PW.then_ ?_ | refine CW.block ?_ | refine CW.skip ?_ | refine CW.ret ?_ | refine PW.then_ret ?_ | refine PW.block_ret ?_ | refine Cut.ret ?_ | refine Rnd.ret ?_ | refine PW.block_normal ?_ | refine CW.exit ?_ | refine PW.then_exit ?_ | refine PW.block_hit ?_ | refine PW.block_miss rfl ?_ | refine Cut.exit ?_ | refine Rnd.exit ?_)
    cases o
    · refine CW.region ?_
      refine L1 (ps_move rfl).os ?_
      refine L1 (ps_not rfl).os ?_
      refine L1 (ps_move rfl).os ?_
      refine LG0f ?_ ?_
      · exact rfl
      refine LG0f ?_ ?_
      · exact rfl
      refine LGU ?_ ?_
      · exact rfl
      refine LGU ?_ ?_
      · exact rfl
      refine LGU ?_ ?_
      · exact rfl
      refine LG0f ?_ ?_
      · exact rfl
      refine L1 (ps_pick_t rfl rfl).os ?_
      refine L1 (ps_assign rfl).os ?_
      refine LW.nil ?_
      repeat (first | refine CW.seq ?_ | refine PW.then_ ?_ | refine CW.block ?_ | refine CW.skip ?_ | refine CW.ret ?_ | refine PW.then_ret ?_ | refine PW.block_ret ?_ | refine Cut.ret ?_ | refine Rnd.ret ?_ | refine PW.block_normal ?_ | refine CW.exit ?_ | refine PW.then_exit ?_ | refine PW.block_hit ?_ | refine PW.block_miss rfl ?_ | refine Cut.exit ?_ | refine Rnd.exit ?_)
      exact Fin.ret1 (v := .bool true) rfl [bag (blks W)] rfl ⟨rfl, rfl⟩ (by repeat (first | exact Ent.refl _ | (apply Ent.cons; · repeat (first | exact pk_head _ _ | apply pk_tail)) | apply Ent.skip))
    · have hs : (addN [d, b]).1 = a := by rw [hadd rfl]
      refine CW.region ?_
      refine L1 (ps_move rfl).os ?_
      refine L1 (ps_not rfl).os ?_
      refine L1 (ps_move rfl).os ?_
      refine LG1 ?_ (ps_move rfl).os ?_
      · exact rfl
      refine LG1 ?_ (ps_move rfl).os ?_
      · exact rfl
      refine LG1 ?_ (os_loadAll (by repeat (first | exact pk_head _ _ | apply pk_tail)) T.ag27 (by exact T.sz27) rfl) ?_
      · exact rfl
      refine LG1 ?_ (os_loadAll (by repeat (first | exact pk_head _ _ | apply pk_tail)) T.ag27 (by exact T.sz27) rfl) ?_
      · exact rfl
      refine LG1 ?_ (ps_t (ps_num_eql (addN [d, b]).1 a T.eq27 rfl rfl) hs).os ?_
      · exact rfl
      refine LG1 ?_ (ps_pick_t rfl rfl).os ?_
      · exact rfl
      refine L1 (ps_pick_f rfl rfl).os ?_
      refine L1 (ps_assign rfl).os ?_
      refine LW.nil ?_
      repeat (first | refine CW.seq ?_ | refine PW.then_ ?_ | refine CW.block ?_ | refine CW.skip ?_ | refine CW.ret ?_ | refine PW.then_ret ?_ | refine PW.block_ret ?_ | refine Cut.ret ?_ | refine Rnd.ret ?_ | refine PW.block_normal ?_ | refine CW.exit ?_ | refine PW.then_exit ?_ | refine PW.block_hit ?_ | refine PW.block_miss rfl ?_ | refine Cut.exit ?_ | refine Rnd.exit ?_)
      exact Fin.ret1 (v := .bool true) rfl [bag (blks W)] rfl ⟨rfl, rfl⟩ (by repeat (first | exact Ent.refl _ | (apply Ent.cons; · repeat (first | exact pk_head _ _ | apply pk_tail)) | apply Ent.skip))

namespace u128Less
open Go.ChangeShapes Go.WideShapes Go.ChangeAt Go.RowKit
theorem own : ownKnob Try.prog.godebug = none := by kernel_rfl
theorem laidOut : laidOutB Try.prog = true := by kernel_rfl
set_option maxRecDepth 100000 in
theorem lifted (os : Os) (started : os.Started) (H : Type) (enc : TypeId × Value → H) :
    ReturnsInHanded {} Try.checked os 10 .any (Rows.u128LessSpec.pre6 enc Try.prog Try.f10 Rows.u128LessRow.domain false) (Rows.u128LessSpec.post enc Try.prog Try.f10 false true false false) := by
  refine returnsInHanded_of_change (C := Try.checked) own started (by kernel_rfl) Try.func10
    (ChangeSpec.witness6 (enc := enc) (C := Try.checked) false ⟨#[], #[(.agg (([Value.int .u64 0]) ++ ([Value.int .u64 0])).toArray), (.agg (([Value.int .u64 0]) ++ ([Value.int .u64 0])).toArray)], []⟩ 8 (by kernel_rfl) (by kernel_rfl) (by kernel_rfl) (by kernel_rfl)) ?_
  intro W base args ds gs before hval0 hW hcnd _
  have hval : ∀ (j : Nat) t v, Try.f10.params[j]? = some t → args[j]? = some v → Value.okWide Try.prog W .any base t v := hval0
  have hW' := hW
  obtain ⟨p, q, hA0, hV, rfl, hfz, hnd⟩ := hW
  have hA : DataW.TrodAll enc Try.prog W 0 (fun _ => true) true Try.f10.params.toList args.toList ds p := hA0
  rw [Try.params10] at hA hval
  obtain ⟨v0, vs0, d0, ds0, p0, q0, hargs, rfl, rfl, h0, r0⟩ := trodAll_cons hA
  obtain ⟨v1, vs1, d1, ds1, p1, q1, rfl, rfl, rfl, h1, r1⟩ := trodAll_cons r0
  obtain ⟨rfl, rfl, rfl⟩ := trodAll_nil r1
  obtain rfl : args = #[v0, v1] := by cases args; simp_all
  obtain ⟨rfl, rfl⟩ := trodVars_none hV
  obtain ⟨cs0, rfl, hcs0⟩ := okWide_agg T.ag27 (hval 0 27 v0 rfl rfl)
  obtain ⟨fu0, hf0⟩ := h0
  obtain ⟨a0, b0, c0⟩ := open_apiNum hf0
  obtain ⟨cs1, rfl, hcs1⟩ := okWide_agg T.ag27 (hval 1 27 v1 rfl rfl)
  obtain ⟨fu1, hf1⟩ := h1
  obtain ⟨a1, b1, c1⟩ := open_apiNum hf1
  simp only [List.append_nil] at hW'
  refine (LawOf.calls (U128Less_law W _ a0 b0 c0 _ a1 b1 c1)).mono fun e W' ⟨he, hb⟩ => ?_
  subst he
  exact ⟨_, rfl, law_post laidOut rfl (tb := 4) (by kernel_rfl) T.un4 (by intro t ht; rw [Try.params10] at ht; simp only [List.mem_cons, List.not_mem_nil, or_false] at ht; rcases ht with rfl | rfl <;> exact ⟨by kernel_rfl, by decide +kernel⟩) rfl hW' hb⟩
theorem holds : Rows.U128LessSaid :=
  OpenClaim.holds_of_wide 10 Try.f10 rfl rfl rfl rfl rfl rfl rfl ⟨rfl, rfl, rfl, rfl, rfl⟩ rfl rfl rfl rfl rfl (by kernel_rfl) Try.func10 (by kernel_rfl)
    (of_decide_eq_true (by kernel_rfl)) (by unfold Func.isWrapper; rw [if_neg (of_decide_eq_false (by kernel_rfl))]; exact ⟨rfl, rfl⟩)
    (fun os started H enc _ => lifted os started H enc)
end u128Less
end Go.Proofs.Ytafalcebolbbeaa
