/- The law U128Orders: sums do not hang on the order; numbers are in one: it answers true for every three numbers (no condition). -/
import Derived.Test.YtafalcebolbbeaaUxFit
import Derived.Test.YtafalcebolbbeaaRows
namespace Go.Proofs.Ytafalcebolbbeaa
open Go Go.SL
set_option linter.unusedVariables false
set_option linter.unusedSimpArgs false

theorem U128Orders_law (W : World) (cs0 : List Value) (a : Nat) (e0 : cs0 = nc a) (ha : a < M128) (cs1 : List Value) (b : Nat) (e1 : cs1 = nc b) (hb : b < M128) (cs2 : List Value) (c : Nat) (e2 : cs2 = nc c) (hc : c < M128) :
    LawOf Try.prog 5 [.agg cs0.toArray, .agg cs1.toArray, .agg cs2.toArray] W := by
  subst e0; subst e1; subst e2
  have hperm : addN [c, a, b] = addN [a, b, c] := by unfold addN; rw [show [c, a, b].sum = [a, b, c].sum by simp; omega]
  obtain ⟨s, o, hs1⟩ : ∃ s o, addN [a, b, c] = (s, o) := ⟨_, _, rfl⟩
  have hs2 := hperm.trans hs1
  have hm3 : ∀ x ∈ [a, b, c], x < M128 := by simp [ha, hb, hc]
  have hm3' : ∀ x ∈ [c, a, b], x < M128 := by simp [ha, hb, hc]
  have hm2 : ∀ x ∈ [a, b], x < M128 := by simp [ha, hb]
  refine FSpec.intro Try.func5 rfl 95 Try.ntmps5 (Nat.le_of_ble_eq_true rfl) fun w0 F => ?_
  show CW _ _ _ _ _ _ (_ :: F)
  repeat (first | refine CW.seq ?_ | refine PW.then_ ?_ | refine CW.block ?_ | refine CW.skip ?_ | refine CW.ret ?_ | refine PW.then_ret ?_ | refine PW.block_ret ?_ | refine Cut.ret ?_ | refine Rnd.ret ?_ | refine PW.block_normal ?_ | refine CW.exit ?_ | refine PW.then_exit ?_ | refine PW.block_hit ?_ | refine PW.block_miss rfl ?_ | refine Cut.exit ?_ | refine Rnd.exit ?_)
  refine CW.region ?_
  refine LE (os_box rfl (by rfl)) ?_
  rintro _ _ ⟨b3, rfl, rfl⟩
  refine LE (os_box rfl (by rfl)) ?_
  rintro _ _ ⟨b4, rfl, rfl⟩
  refine LE (os_box rfl (by rfl)) ?_
  rintro _ _ ⟨b5, rfl, rfl⟩
  refine L1 (ps_assign rfl).os ?_
  refine LW.nil ?_
  repeat (first | refine CW.seq ?_ | refine PW.then_ ?_ | refine CW.block ?_ | refine CW.skip ?_ | refine CW.ret ?_ | refine PW.then_ret ?_ | refine PW.block_ret ?_ | refine Cut.ret ?_ | refine Rnd.ret ?_ | refine PW.block_normal ?_ | refine CW.exit ?_ | refine PW.then_exit ?_ | refine PW.block_hit ?_ | refine PW.block_miss rfl ?_ | refine Cut.exit ?_ | refine Rnd.exit ?_)
  refine CW.region ?_
  refine L1 (os_call0 fit_spec Try.func13 (by decide +kernel) rfl rfl) ?_
  refine L1 (ps_not rfl).os ?_
  refine LW.nil ?_
  repeat (first | refine CW.seq ?_ | refine PW.then_ ?_ | refine CW.block ?_ | refine CW.skip ?_ | refine CW.ret ?_ | refine PW.then_ret ?_ | refine PW.block_ret ?_ | refine Cut.ret ?_ | refine Rnd.ret ?_ | refine PW.block_normal ?_ | refine CW.exit ?_ | refine PW.then_exit ?_ | refine PW.block_hit ?_ | refine PW.block_miss rfl ?_ | refine Cut.exit ?_ | refine Rnd.exit ?_)
  refine CW.cond_false rfl ?_
  repeat (first | refine CW.seq ?_ | refine PW.then_ ?_ | refine CW.block ?_ | refine CW.skip ?_ | refine CW.ret ?_ | refine PW.then_ret ?_ | refine PW.block_ret ?_ | refine Cut.ret ?_ | refine Rnd.ret ?_ | refine PW.block_normal ?_ | refine CW.exit ?_ | refine PW.then_exit ?_ | refine PW.block_hit ?_ | refine PW.block_miss rfl ?_ | refine Cut.exit ?_ | refine Rnd.exit ?_)
  refine CW.region ?_
  refine L1 (os_loadAll (by repeat (first | exact pk_head _ _ | apply pk_tail)) T.ag27 (by exact T.sz27) rfl) ?_
  refine L1 (os_loadAll (by repeat (first | exact pk_head _ _ | apply pk_tail)) T.ag27 (by exact T.sz27) rfl) ?_
  refine L1 (os_loadAll (by repeat (first | exact pk_head _ _ | apply pk_tail)) T.ag27 (by exact T.sz27) rfl) ?_
  refine LE (os_bslR ([a, b, c].map nc) T.un22 T.ti27 (by rfl) (by rfl) (by simp [nc_len]) (by decide) (by decide)) ?_
  rintro _ _ ⟨b21, rfl, rfl⟩
  refine L1 (os_call1 (Add_row [a, b, c] rfl (by simp) hm3 hs1) Try.func15 (by decide +kernel) rfl rfl (by repeat (first | exact pk_head _ _ | apply pk_tail))) ?_
  refine L1 (ps_move rfl).os ?_
  refine L1 (ps_extract rfl rfl).os ?_
  refine L1 (ps_extract rfl rfl).os ?_
  refine LE (os_alloc T.ti27) ?_
  rintro _ _ ⟨b7, rfl, rfl⟩
  refine L1 (os_storeAll (by repeat (first | exact pk_head _ _ | apply pk_tail)) (by exact T.sz27) rfl rfl (by first | exact nc_one _ | simp [Value.oneCell']) (by rfl)) ?_
  refine L1 (ps_assign rfl).os ?_
  refine LW.nil ?_
  repeat (first | refine CW.seq ?_ | refine PW.then_ ?_ | refine CW.block ?_ | refine CW.skip ?_ | refine CW.ret ?_ | refine PW.then_ret ?_ | refine PW.block_ret ?_ | refine Cut.ret ?_ | refine Rnd.ret ?_ | refine PW.block_normal ?_ | refine CW.exit ?_ | refine PW.then_exit ?_ | refine PW.block_hit ?_ | refine PW.block_miss rfl ?_ | refine Cut.exit ?_ | refine Rnd.exit ?_)
  refine CW.region ?_
  refine L1 (os_loadAll (by repeat (first | exact pk_head _ _ | apply pk_tail)) T.ag27 (by exact T.sz27) rfl) ?_
  refine L1 (os_loadAll (by repeat (first | exact pk_head _ _ | apply pk_tail)) T.ag27 (by exact T.sz27) rfl) ?_
  refine L1 (os_loadAll (by repeat (first | exact pk_head _ _ | apply pk_tail)) T.ag27 (by exact T.sz27) rfl) ?_
  refine LE (os_bslR ([c, a, b].map nc) T.un22 T.ti27 (by rfl) (by rfl) (by simp [nc_len]) (by decide) (by decide)) ?_
  rintro _ _ ⟨b29, rfl, rfl⟩
  refine L1 (os_call1 (Add_row [c, a, b] rfl (by simp) hm3' hs2) Try.func15 (by decide +kernel) rfl rfl (by repeat (first | exact pk_head _ _ | apply pk_tail))) ?_
  refine L1 (ps_move rfl).os ?_
  refine L1 (ps_extract rfl rfl).os ?_
  refine L1 (ps_extract rfl rfl).os ?_
  refine LE (os_alloc T.ti27) ?_
  rintro _ _ ⟨b9, rfl, rfl⟩
  refine L1 (os_storeAll (by repeat (first | exact pk_head _ _ | apply pk_tail)) (by exact T.sz27) rfl rfl (by first | exact nc_one _ | simp [Value.oneCell']) (by rfl)) ?_
  refine L1 (ps_assign rfl).os ?_
  refine LW.nil ?_
  repeat (first | refine CW.seq ?_ | refine PW.then_ ?_ | refine CW.block ?_ | refine CW.skip ?_ | refine CW.ret ?_ | refine PW.then_ret ?_ | refine PW.block_ret ?_ | refine Cut.ret ?_ | refine Rnd.ret ?_ | refine PW.block_normal ?_ | refine CW.exit ?_ | refine PW.then_exit ?_ | refine PW.block_hit ?_ | refine PW.block_miss rfl ?_ | refine Cut.exit ?_ | refine Rnd.exit ?_)
  refine CW.region ?_
  refine L1 (os_call0 Add_nil Try.func15 (by decide +kernel) rfl rfl) ?_
  refine L1 (ps_move rfl).os ?_
  refine L1 (ps_extract rfl rfl).os ?_
  refine L1 (ps_extract rfl rfl).os ?_
  refine LE (os_alloc T.ti27) ?_
  rintro _ _ ⟨b11, rfl, rfl⟩
  refine L1 (os_storeAll (by repeat (first | exact pk_head _ _ | apply pk_tail)) (by exact T.sz27) rfl rfl (by first | exact nc_one _ | simp [Value.oneCell']) (by rfl)) ?_
  refine L1 (ps_assign rfl).os ?_
  refine LW.nil ?_
  repeat (first | refine CW.seq ?_ | refine PW.then_ ?_ | refine CW.block ?_ | refine CW.skip ?_ | refine CW.ret ?_ | refine PW.then_ret ?_ | refine PW.block_ret ?_ | refine Cut.ret ?_ | refine Rnd.ret ?_ | refine PW.block_normal ?_ | refine CW.exit ?_ | refine PW.then_exit ?_ | refine PW.block_hit ?_ | refine PW.block_miss rfl ?_ | refine Cut.exit ?_ | refine Rnd.exit ?_)
  refine CW.region ?_
  refine L1 (os_loadAll (by repeat (first | exact pk_head _ _ | apply pk_tail)) T.ag27 (by exact T.sz27) rfl) ?_
  refine L1 (os_loadAll (by repeat (first | exact pk_head _ _ | apply pk_tail)) T.ag27 (by exact T.sz27) rfl) ?_
  refine L1 (ps_f (ps_num_neq _ _ T.eq27 rfl rfl) (fun h => h rfl)).os ?_
  refine L1 (ps_move rfl).os ?_
  refine LG1 ?_ (ps_move rfl).os ?_
  · exact rfl
  refine LG1 ?_ (ps_move rfl).os ?_
  · exact rfl
  refine LG1 ?_ (ps_to (u := .bool false) (by simp) (ps_bool_neq T.un4 rfl rfl)).os ?_
  · exact rfl
  refine L1 (ps_pick_f rfl rfl).os ?_
  refine L1 (ps_move rfl).os ?_
  refine LG1 ?_ (ps_move rfl).os ?_
  · exact rfl
  refine LG1 ?_ (ps_not rfl).os ?_
  · exact rfl
  refine L1 (ps_pick_f rfl rfl).os ?_
  refine L1 (ps_move rfl).os ?_
  refine LG1 ?_ (os_loadAll (by repeat (first | exact pk_head _ _ | apply pk_tail)) T.ag27 (by exact T.sz27) rfl) ?_
  · exact rfl
  refine LG1 ?_ (ps_build (by rfl) (T.bd27)).os ?_
  · exact rfl
  refine LG1 ?_ (ps_f (ps_num_neq 0 0 T.eq27 rfl rfl) (fun h => h rfl)).os ?_
  · exact rfl
  refine L1 (ps_pick_f rfl rfl).os ?_
  refine LW.nil ?_
  repeat (first | refine CW.seq ?_ | refine PW.then_ ?_ | refine CW.block ?_ | refine CW.skip ?_ | refine CW.ret ?_ | refine PW.then_ret ?_ | refine PW.block_ret ?_ | refine Cut.ret ?_ | refine Rnd.ret ?_ | refine PW.block_normal ?_ | refine CW.exit ?_ | refine PW.then_exit ?_ | refine PW.block_hit ?_ | refine PW.block_miss rfl ?_ | refine Cut.exit ?_ | refine Rnd.exit ?_)
  refine CW.cond_false rfl ?_
  refine CW.skip ?_
  refine PW.then_ ?_
  refine CW.seq ?_
  refine CW.cutM (α := Unit) [54, 55, 56, 57, 58, 59, 60, 61, 62, 63, 64, 65, 66, 67, 68, 69] (fun _ => True) (fun _ => [(69, .bool false)]) (fun _ => cb b3 27 (nc a) :: cb b4 27 (nc b) :: cb b5 27 (nc c) :: bag (blks W) :: F) ?_ ?_
  · by_cases h1 : a ≤ b
    · by_cases h2 : b ≤ c
      · refine CW.region ?_
        refine L1 (os_loadAll (by repeat (first | exact pk_head _ _ | apply pk_tail)) T.ag27 (by exact T.sz27) rfl) ?_
        refine L1 (os_loadAll (by repeat (first | exact pk_head _ _ | apply pk_tail)) T.ag27 (by exact T.sz27) rfl) ?_
        refine L1 (os_call0 (Compare_spec a b ha hb) Try.func18 (by decide +kernel) rfl rfl) ?_
        refine L1 (ps_t (ps_leq rfl rfl) (cmpN_le0.2 h1)).os ?_
        refine L1 (ps_move rfl).os ?_
        refine LG1 ?_ (os_loadAll (by repeat (first | exact pk_head _ _ | apply pk_tail)) T.ag27 (by exact T.sz27) rfl) ?_
        · exact rfl
        refine LG1 ?_ (os_loadAll (by repeat (first | exact pk_head _ _ | apply pk_tail)) T.ag27 (by exact T.sz27) rfl) ?_
        · exact rfl
        refine LG1 ?_ (os_call0 (Compare_spec b c hb hc) Try.func18 (by decide +kernel) rfl rfl) ?_
        · exact rfl
        refine LG1 ?_ (ps_t (ps_leq rfl rfl) (cmpN_le0.2 h2)).os ?_
        · exact rfl
        refine L1 (ps_pick_t rfl rfl).os ?_
        refine L1 (ps_move rfl).os ?_
        refine LG1 ?_ (os_loadAll (by repeat (first | exact pk_head _ _ | apply pk_tail)) T.ag27 (by exact T.sz27) rfl) ?_
        · exact rfl
        refine LG1 ?_ (os_loadAll (by repeat (first | exact pk_head _ _ | apply pk_tail)) T.ag27 (by exact T.sz27) rfl) ?_
        · exact rfl
        refine LG1 ?_ (os_call0 (Compare_spec a c ha hc) Try.func18 (by decide +kernel) rfl rfl) ?_
        · exact rfl
        refine LG1 ?_ (ps_f (ps_gtr rfl rfl) (fun h => absurd (cmpN_gt0.1 h) (by omega))).os ?_
        · exact rfl
        refine L1 (ps_pick_t rfl rfl).os ?_
        refine LW.nil ?_
        exact Meet.cut () trivial (by repeat (first | (with_reducible exact Ag.refl _ _) | (with_reducible apply Ag.pu0) | ((with_reducible refine Ag.pu _ ?_ ?_); · exact rfl) | ((with_reducible refine Ag.mix ?_ ?_); · exact rfl) | ((with_reducible refine Ag.pus ?_ ?_); · exact rfl))) ⟨rfl, trivial⟩ (by repeat (first | exact Ent.refl _ | (apply Ent.cons; · repeat (first | exact pk_head _ _ | apply pk_tail)) | apply Ent.skip))
      · refine CW.region ?_
        refine L1 (os_loadAll (by repeat (first | exact pk_head _ _ | apply pk_tail)) T.ag27 (by exact T.sz27) rfl) ?_
        refine L1 (os_loadAll (by repeat (first | exact pk_head _ _ | apply pk_tail)) T.ag27 (by exact T.sz27) rfl) ?_
        refine L1 (os_call0 (Compare_spec a b ha hb) Try.func18 (by decide +kernel) rfl rfl) ?_
        refine L1 (ps_t (ps_leq rfl rfl) (cmpN_le0.2 h1)).os ?_
        refine L1 (ps_move rfl).os ?_
        refine LG1 ?_ (os_loadAll (by repeat (first | exact pk_head _ _ | apply pk_tail)) T.ag27 (by exact T.sz27) rfl) ?_
        · exact rfl
        refine LG1 ?_ (os_loadAll (by repeat (first | exact pk_head _ _ | apply pk_tail)) T.ag27 (by exact T.sz27) rfl) ?_
        · exact rfl
        refine LG1 ?_ (os_call0 (Compare_spec b c hb hc) Try.func18 (by decide +kernel) rfl rfl) ?_
        · exact rfl
        refine LG1 ?_ (ps_f (ps_leq rfl rfl) (fun h => h2 (cmpN_le0.1 h))).os ?_
        · exact rfl
        refine L1 (ps_pick_t rfl rfl).os ?_
        refine L1 (ps_move rfl).os ?_
        refine LG0t ?_ ?_
        · exact rfl
        refine LG0t ?_ ?_
        · exact rfl
        refine LG0t ?_ ?_
        · exact rfl
        refine LG0t ?_ ?_
        · exact rfl
        refine L1 (ps_pick_f rfl rfl).os ?_
        refine LW.nil ?_
        exact Meet.cut () trivial (by repeat (first | (with_reducible exact Ag.refl _ _) | (with_reducible apply Ag.pu0) | ((with_reducible refine Ag.pu _ ?_ ?_); · exact rfl) | ((with_reducible refine Ag.mix ?_ ?_); · exact rfl) | ((with_reducible refine Ag.pus ?_ ?_); · exact rfl))) ⟨rfl, trivial⟩ (by repeat (first | exact Ent.refl _ | (apply Ent.cons; · repeat (first | exact pk_head _ _ | apply pk_tail)) | apply Ent.skip))
    · refine CW.region ?_
      refine L1 (os_loadAll (by repeat (first | exact pk_head _ _ | apply pk_tail)) T.ag27 (by exact T.sz27) rfl) ?_
      refine L1 (os_loadAll (by repeat (first | exact pk_head _ _ | apply pk_tail)) T.ag27 (by exact T.sz27) rfl) ?_
      refine L1 (os_call0 (Compare_spec a b ha hb) Try.func18 (by decide +kernel) rfl rfl) ?_
      refine L1 (ps_f (ps_leq rfl rfl) (fun h => h1 (cmpN_le0.1 h))).os ?_
      refine L1 (ps_move rfl).os ?_
      refine LG0t ?_ ?_
      · exact rfl
      refine LG0t ?_ ?_
      · exact rfl
      refine LG0t ?_ ?_
      · exact rfl
      refine LG0t ?_ ?_
      · exact rfl
      refine L1 (ps_pick_f rfl rfl).os ?_
      refine L1 (ps_move rfl).os ?_
      refine LG0t ?_ ?_
      · exact rfl
      refine LG0t ?_ ?_
      · exact rfl
      refine LG0t ?_ ?_
      · exact rfl
      refine LG0t ?_ ?_
      · exact rfl
      refine L1 (ps_pick_f rfl rfl).os ?_
      refine LW.nil ?_
      exact Meet.cut () trivial (by repeat (first | (with_reducible exact Ag.refl _ _) | (with_reducible apply Ag.pu0) | ((with_reducible refine Ag.pu _ ?_ ?_); · exact rfl) | ((with_reducible refine Ag.mix ?_ ?_); · exact rfl) | ((with_reducible refine Ag.pus ?_ ?_); · exact rfl))) ⟨rfl, trivial⟩ (by repeat (first | exact Ent.refl _ | (apply Ent.cons; · repeat (first | exact pk_head _ _ | apply pk_tail)) | apply Ent.skip))
  intro _ g _
  repeat (first | refine CW.seq ?_ | refine PW.then_ ?_ | refine CW.block ?_ | refine CW.skip ?_ | refine CW.ret ?_ | refine PW.then_ret ?_ | refine PW.block_ret ?_ | refine Cut.ret ?_ | refine Rnd.ret ?_ | refine PW.block_normal ?_ | refine CW.exit ?_ | refine PW.then_exit ?_ | refine PW.block_hit ?_ | refine PW.block_miss rfl ?_ | refine Cut.exit ?_ | refine Rnd.exit ?_)
  refine CW.cond_false rfl ?_
  repeat (first | refine CW.seq ?_ | refine PW.then_ ?_ | refine CW.block ?_ | refine CW.skip ?_ | refine CW.ret ?_ | refine PW.then_ret ?_ | refine PW.block_ret ?_ | refine Cut.ret ?_ | refine Rnd.ret ?_ | refine PW.block_normal ?_ | refine CW.exit ?_ | refine PW.then_exit ?_ | refine PW.block_hit ?_ | refine PW.block_miss rfl ?_ | refine Cut.exit ?_ | refine Rnd.exit ?_)
  by_cases hov : a + b < M128
  · have hs : addN [a, b] = (a + b, true) := by unfold addN; simp [hov]
    have hq : (decide (cmpN (a + b) a = 0) == decide (b = 0)) = true := by
      rw [beq_iff_eq, decide_eq_decide, cmpN_eq0]; omega
    refine CW.region ?_
    refine L1 (os_loadAll (by repeat (first | exact pk_head _ _ | apply pk_tail)) T.ag27 (by exact T.sz27) rfl) ?_
    refine L1 (os_loadAll (by repeat (first | exact pk_head _ _ | apply pk_tail)) T.ag27 (by exact T.sz27) rfl) ?_
    refine LE (os_bslR ([a, b].map nc) T.un22 T.ti27 (by rfl) (by rfl) (by simp [nc_len]) (by decide) (by decide)) ?_
    rintro _ _ ⟨b73, rfl, rfl⟩
    refine L1 (os_call1 (Add_row [a, b] rfl (by simp) hm2 hs) Try.func15 (by decide +kernel) rfl rfl (by repeat (first | exact pk_head _ _ | apply pk_tail))) ?_
    refine L1 (ps_move rfl).os ?_
    refine L1 (ps_extract rfl rfl).os ?_
    refine L1 (ps_extract rfl rfl).os ?_
    refine LE (os_alloc T.ti27) ?_
    rintro _ _ ⟨b13, rfl, rfl⟩
    refine L1 (os_storeAll (by repeat (first | exact pk_head _ _ | apply pk_tail)) (by exact T.sz27) rfl rfl (by first | exact nc_one _ | simp [Value.oneCell']) (by rfl)) ?_
    refine L1 (ps_assign rfl).os ?_
    refine LW.nil ?_
    repeat (first | refine CW.seq ?_ | refine PW.then_ ?_ | refine CW.block ?_ | refine CW.skip ?_ | refine CW.ret ?_ | refine PW.then_ret ?_ | refine PW.block_ret ?_ | refine Cut.ret ?_ | refine Rnd.ret ?_ | refine PW.block_normal ?_ | refine CW.exit ?_ | refine PW.then_exit ?_ | refine PW.block_hit ?_ | refine PW.block_miss rfl ?_ | refine Cut.exit ?_ | refine Rnd.exit ?_)
    refine CW.drawH [cb b3 27 (nc a), cb b4 27 (nc b), cb b13 27 (nc (a + b))] [] T.mixed ?_
    refine H_take (i := 0) (some 77) rfl rfl (by kernel_rfl) (by kernel_rfl) (by kernel_rfl) rfl (ps_move rfl).pl (by kernel_rfl) (pkc (by repeat (first | exact pk_head _ _ | apply pk_tail)) (pkc (by repeat (first | exact pk_head _ _ | apply pk_tail)) (pkc (by repeat (first | exact pk_head _ _ | apply pk_tail)) (pkn _)))) ?_
    refine H_take (i := 1) (some 78) rfl rfl (by kernel_rfl) (by kernel_rfl) (by kernel_rfl) rfl (ps_not rfl).pl (by kernel_rfl) (pkc (by repeat (first | exact pk_head _ _ | apply pk_tail)) (pkc (by repeat (first | exact pk_head _ _ | apply pk_tail)) (pkc (by repeat (first | exact pk_head _ _ | apply pk_tail)) (pkn _)))) ?_
    refine H_take (i := 2) (some 79) rfl rfl (by kernel_rfl) (by kernel_rfl) (by kernel_rfl) rfl (ps_move rfl).pl (by kernel_rfl) (pkc (by repeat (first | exact pk_head _ _ | apply pk_tail)) (pkc (by repeat (first | exact pk_head _ _ | apply pk_tail)) (pkc (by repeat (first | exact pk_head _ _ | apply pk_tail)) (pkn _)))) ?_
    refine H_take (i := 3) (some 80) rfl rfl (by kernel_rfl) (by kernel_rfl) (by kernel_rfl) rfl (pl_loadAll (by repeat (first | exact pk_head _ _ | apply pk_tail)) T.ag27 (by exact T.sz27) rfl) (by kernel_rfl) (pkc (by repeat (first | exact pk_head _ _ | apply pk_tail)) (pkc (by repeat (first | exact pk_head _ _ | apply pk_tail)) (pkc (by repeat (first | exact pk_head _ _ | apply pk_tail)) (pkn _)))) ?_
    refine H_take (i := 4) (some 81) rfl rfl (by kernel_rfl) (by kernel_rfl) (by kernel_rfl) rfl (pl_loadAll (by repeat (first | exact pk_head _ _ | apply pk_tail)) T.ag27 (by exact T.sz27) rfl) (by kernel_rfl) (pkc (by repeat (first | exact pk_head _ _ | apply pk_tail)) (pkc (by repeat (first | exact pk_head _ _ | apply pk_tail)) (pkc (by repeat (first | exact pk_head _ _ | apply pk_tail)) (pkn _)))) ?_
    refine H_branch (rs := [5]) (by kernel_rfl) (by simp) ?_
    refine HR.cons1 (i := 5) (some 82) rfl rfl rfl (os_call0 (Compare_spec (a + b) a hov ha) Try.func18 (by decide +kernel) rfl rfl) (pkc (by repeat (first | exact pk_head _ _ | apply pk_tail)) (pkc (by repeat (first | exact pk_head _ _ | apply pk_tail)) (pkc (by repeat (first | exact pk_head _ _ | apply pk_tail)) (pkn _)))) ?_ ?_
    · skip
      refine H_take (i := 6) (some 83) rfl rfl (by kernel_rfl) (by kernel_rfl) (by kernel_rfl) rfl (ps_t (ps_geq rfl rfl) (cmpN_ge0.2 (Nat.le_add_right a b))).pl (by kernel_rfl) (pkc (by repeat (first | exact pk_head _ _ | apply pk_tail)) (pkc (by repeat (first | exact pk_head _ _ | apply pk_tail)) (pkc (by repeat (first | exact pk_head _ _ | apply pk_tail)) (pkn _)))) ?_
      refine H_take (i := 7) (some 84) rfl rfl (by kernel_rfl) (by kernel_rfl) (by kernel_rfl) rfl (ps_move rfl).pl (by kernel_rfl) (pkc (by repeat (first | exact pk_head _ _ | apply pk_tail)) (pkc (by repeat (first | exact pk_head _ _ | apply pk_tail)) (pkc (by repeat (first | exact pk_head _ _ | apply pk_tail)) (pkn _)))) ?_
      refine H_take (i := 8) (some 85) rfl rfl (by kernel_rfl) (by kernel_rfl) (by kernel_rfl) rfl (pl_loadAll (by repeat (first | exact pk_head _ _ | apply pk_tail)) T.ag27 (by exact T.sz27) rfl) (by kernel_rfl) (pkc (by repeat (first | exact pk_head _ _ | apply pk_tail)) (pkc (by repeat (first | exact pk_head _ _ | apply pk_tail)) (pkc (by repeat (first | exact pk_head _ _ | apply pk_tail)) (pkn _)))) ?_
      refine H_take (i := 9) (some 86) rfl rfl (by kernel_rfl) (by kernel_rfl) (by kernel_rfl) rfl (pl_loadAll (by repeat (first | exact pk_head _ _ | apply pk_tail)) T.ag27 (by exact T.sz27) rfl) (by kernel_rfl) (pkc (by repeat (first | exact pk_head _ _ | apply pk_tail)) (pkc (by repeat (first | exact pk_head _ _ | apply pk_tail)) (pkc (by repeat (first | exact pk_head _ _ | apply pk_tail)) (pkn _)))) ?_
      refine H_take (i := 12) (some 89) rfl rfl (by kernel_rfl) (by kernel_rfl) (by kernel_rfl) rfl (pl_loadAll (by repeat (first | exact pk_head _ _ | apply pk_tail)) T.ag27 (by exact T.sz27) rfl) (by kernel_rfl) (pkc (by repeat (first | exact pk_head _ _ | apply pk_tail)) (pkc (by repeat (first | exact pk_head _ _ | apply pk_tail)) (pkc (by repeat (first | exact pk_head _ _ | apply pk_tail)) (pkn _)))) ?_
      refine H_take (i := 13) (some 90) rfl rfl (by kernel_rfl) (by kernel_rfl) (by kernel_rfl) rfl (ps_build (by rfl) (T.bd27)).pl (by kernel_rfl) (pkc (by repeat (first | exact pk_head _ _ | apply pk_tail)) (pkc (by repeat (first | exact pk_head _ _ | apply pk_tail)) (pkc (by repeat (first | exact pk_head _ _ | apply pk_tail)) (pkn _)))) ?_
      refine H_take (i := 14) (some 91) rfl rfl (by kernel_rfl) (by kernel_rfl) (by kernel_rfl) rfl (ps_num_eql b 0 T.eq27 rfl rfl).pl (by kernel_rfl) (pkc (by repeat (first | exact pk_head _ _ | apply pk_tail)) (pkc (by repeat (first | exact pk_head _ _ | apply pk_tail)) (pkc (by repeat (first | exact pk_head _ _ | apply pk_tail)) (pkn _)))) ?_
      refine H_branch (rs := [10]) (by kernel_rfl) (by simp) ?_
      refine HR.cons1 (i := 10) (some 87) rfl rfl rfl (os_call0 (Compare_spec (a + b) a hov ha) Try.func18 (by decide +kernel) rfl rfl) (pkc (by repeat (first | exact pk_head _ _ | apply pk_tail)) (pkc (by repeat (first | exact pk_head _ _ | apply pk_tail)) (pkc (by repeat (first | exact pk_head _ _ | apply pk_tail)) (pkn _)))) ?_ ?_
      · skip
        refine H_take (i := 11) (some 88) rfl rfl (by kernel_rfl) (by kernel_rfl) (by kernel_rfl) rfl (ps_eql rfl rfl).pl (by kernel_rfl) (pkc (by repeat (first | exact pk_head _ _ | apply pk_tail)) (pkc (by repeat (first | exact pk_head _ _ | apply pk_tail)) (pkc (by repeat (first | exact pk_head _ _ | apply pk_tail)) (pkn _)))) ?_
        refine H_take (i := 15) (some 92) rfl rfl (by kernel_rfl) (by kernel_rfl) (by kernel_rfl) rfl (ps_to (congrArg Value.bool hq) (ps_bool_eql T.un4 rfl rfl)).pl (by kernel_rfl) (pkc (by repeat (first | exact pk_head _ _ | apply pk_tail)) (pkc (by repeat (first | exact pk_head _ _ | apply pk_tail)) (pkc (by repeat (first | exact pk_head _ _ | apply pk_tail)) (pkn _)))) ?_
        refine H_take (i := 16) (some 93) rfl rfl (by kernel_rfl) (by kernel_rfl) (by kernel_rfl) rfl (ps_pick_t rfl rfl).pl (by kernel_rfl) (pkc (by repeat (first | exact pk_head _ _ | apply pk_tail)) (pkc (by repeat (first | exact pk_head _ _ | apply pk_tail)) (pkc (by repeat (first | exact pk_head _ _ | apply pk_tail)) (pkn _)))) ?_
        refine H_take (i := 17) (some 94) rfl rfl (by kernel_rfl) (by kernel_rfl) (by kernel_rfl) rfl (ps_pick_f rfl rfl).pl (by kernel_rfl) (pkc (by repeat (first | exact pk_head _ _ | apply pk_tail)) (pkc (by repeat (first | exact pk_head _ _ | apply pk_tail)) (pkc (by repeat (first | exact pk_head _ _ | apply pk_tail)) (pkn _)))) ?_
        refine H_take (i := 18) (some 6) rfl rfl (by kernel_rfl) (by kernel_rfl) (by kernel_rfl) rfl (ps_assign rfl).pl (by kernel_rfl) (pkc (by repeat (first | exact pk_head _ _ | apply pk_tail)) (pkc (by repeat (first | exact pk_head _ _ | apply pk_tail)) (pkc (by repeat (first | exact pk_head _ _ | apply pk_tail)) (pkn _)))) ?_
        refine H_done (by kernel_rfl) ?_
        repeat (first | refine CW.seq ?_ | refine PW.then_ ?_ | refine CW.block ?_ | refine CW.skip ?_ | refine CW.ret ?_ | refine PW.then_ret ?_ | refine PW.block_ret ?_ | refine Cut.ret ?_ | refine Rnd.ret ?_ | refine PW.block_normal ?_ | refine CW.exit ?_ | refine PW.then_exit ?_ | refine PW.block_hit ?_ | refine PW.block_miss rfl ?_ | refine Cut.exit ?_ | refine Rnd.exit ?_)
        exact Fin.ret1 (v := .bool true) rfl [bag (blks W)] rfl ⟨rfl, rfl⟩ (by repeat (first | exact Ent.refl _ | (apply Ent.cons; · repeat (first | exact pk_head _ _ | apply pk_tail)) | apply Ent.skip))
      exact HR.nil
    exact HR.nil
  · have hs : addN [a, b] = (0, false) := by unfold addN; rw [if_neg (by simpa using hov)]
    refine CW.region ?_
    refine L1 (os_loadAll (by repeat (first | exact pk_head _ _ | apply pk_tail)) T.ag27 (by exact T.sz27) rfl) ?_
    refine L1 (os_loadAll (by repeat (first | exact pk_head _ _ | apply pk_tail)) T.ag27 (by exact T.sz27) rfl) ?_
    refine LE (os_bslR ([a, b].map nc) T.un22 T.ti27 (by rfl) (by rfl) (by simp [nc_len]) (by decide) (by decide)) ?_
    rintro _ _ ⟨b73, rfl, rfl⟩
    refine L1 (os_call1 (Add_row [a, b] rfl (by simp) hm2 hs) Try.func15 (by decide +kernel) rfl rfl (by repeat (first | exact pk_head _ _ | apply pk_tail))) ?_
    refine L1 (ps_move rfl).os ?_
    refine L1 (ps_extract rfl rfl).os ?_
    refine L1 (ps_extract rfl rfl).os ?_
    refine LE (os_alloc T.ti27) ?_
    rintro _ _ ⟨b13, rfl, rfl⟩
    refine L1 (os_storeAll (by repeat (first | exact pk_head _ _ | apply pk_tail)) (by exact T.sz27) rfl rfl (by first | exact nc_one _ | simp [Value.oneCell']) (by rfl)) ?_
    refine L1 (ps_assign rfl).os ?_
    refine LW.nil ?_
    repeat (first | refine CW.seq ?_ | refine PW.then_ ?_ | refine CW.block ?_ | refine CW.skip ?_ | refine CW.ret ?_ | refine PW.then_ret ?_ | refine PW.block_ret ?_ | refine Cut.ret ?_ | refine Rnd.ret ?_ | refine PW.block_normal ?_ | refine CW.exit ?_ | refine PW.then_exit ?_ | refine PW.block_hit ?_ | refine PW.block_miss rfl ?_ | refine Cut.exit ?_ | refine Rnd.exit ?_)
    refine CW.drawH [cb b3 27 (nc a)] [] T.mixed ?_
    refine H_take (i := 0) (some 77) rfl rfl (by kernel_rfl) (by kernel_rfl) (by kernel_rfl) rfl (ps_move rfl).pl (by kernel_rfl) (pkc (by repeat (first | exact pk_head _ _ | apply pk_tail)) (pkn _)) ?_
    refine H_take (i := 1) (some 78) rfl rfl (by kernel_rfl) (by kernel_rfl) (by kernel_rfl) rfl (ps_not rfl).pl (by kernel_rfl) (pkc (by repeat (first | exact pk_head _ _ | apply pk_tail)) (pkn _)) ?_
    refine H_take (i := 2) (some 79) rfl rfl (by kernel_rfl) (by kernel_rfl) (by kernel_rfl) rfl (ps_move rfl).pl (by kernel_rfl) (pkc (by repeat (first | exact pk_head _ _ | apply pk_tail)) (pkn _)) ?_
    refine H_pass (i := 3) (some 80) rfl rfl (by kernel_rfl) (by kernel_rfl) (by kernel_rfl) rfl (by kernel_rfl) (pkc (by repeat (first | exact pk_head _ _ | apply pk_tail)) (pkn _)) ?_
    refine H_pass (i := 4) (some 81) rfl rfl (by kernel_rfl) (by kernel_rfl) (by kernel_rfl) rfl (by kernel_rfl) (pkc (by repeat (first | exact pk_head _ _ | apply pk_tail)) (pkn _)) ?_
    refine H_pass (i := 5) (some 82) rfl rfl (by kernel_rfl) (by kernel_rfl) (by kernel_rfl) rfl (by kernel_rfl) (pkc (by repeat (first | exact pk_head _ _ | apply pk_tail)) (pkn _)) ?_
    refine H_pass (i := 6) (some 83) rfl rfl (by kernel_rfl) (by kernel_rfl) (by kernel_rfl) rfl (by kernel_rfl) (pkc (by repeat (first | exact pk_head _ _ | apply pk_tail)) (pkn _)) ?_
    refine H_pass (i := 7) (some 84) rfl rfl (by kernel_rfl) (by kernel_rfl) (by kernel_rfl) rfl (by kernel_rfl) (pkc (by repeat (first | exact pk_head _ _ | apply pk_tail)) (pkn _)) ?_
    refine H_pass (i := 8) (some 85) rfl rfl (by kernel_rfl) (by kernel_rfl) (by kernel_rfl) rfl (by kernel_rfl) (pkc (by repeat (first | exact pk_head _ _ | apply pk_tail)) (pkn _)) ?_
    refine H_pass (i := 9) (some 86) rfl rfl (by kernel_rfl) (by kernel_rfl) (by kernel_rfl) rfl (by kernel_rfl) (pkc (by repeat (first | exact pk_head _ _ | apply pk_tail)) (pkn _)) ?_
    refine H_pass (i := 10) (some 87) rfl rfl (by kernel_rfl) (by kernel_rfl) (by kernel_rfl) rfl (by kernel_rfl) (pkc (by repeat (first | exact pk_head _ _ | apply pk_tail)) (pkn _)) ?_
    refine H_pass (i := 11) (some 88) rfl rfl (by kernel_rfl) (by kernel_rfl) (by kernel_rfl) rfl (by kernel_rfl) (pkc (by repeat (first | exact pk_head _ _ | apply pk_tail)) (pkn _)) ?_
    refine H_pass (i := 12) (some 89) rfl rfl (by kernel_rfl) (by kernel_rfl) (by kernel_rfl) rfl (by kernel_rfl) (pkc (by repeat (first | exact pk_head _ _ | apply pk_tail)) (pkn _)) ?_
    refine H_pass (i := 13) (some 90) rfl rfl (by kernel_rfl) (by kernel_rfl) (by kernel_rfl) rfl (by kernel_rfl) (pkc (by repeat (first | exact pk_head _ _ | apply pk_tail)) (pkn _)) ?_
    refine H_pass (i := 14) (some 91) rfl rfl (by kernel_rfl) (by kernel_rfl) (by kernel_rfl) rfl (by kernel_rfl) (pkc (by repeat (first | exact pk_head _ _ | apply pk_tail)) (pkn _)) ?_
    refine H_pass (i := 15) (some 92) rfl rfl (by kernel_rfl) (by kernel_rfl) (by kernel_rfl) rfl (by kernel_rfl) (pkc (by repeat (first | exact pk_head _ _ | apply pk_tail)) (pkn _)) ?_
    refine H_pass (i := 16) (some 93) rfl rfl (by kernel_rfl) (by kernel_rfl) (by kernel_rfl) rfl (by kernel_rfl) (pkc (by repeat (first | exact pk_head _ _ | apply pk_tail)) (pkn _)) ?_
    refine H_take (i := 17) (some 94) rfl rfl (by kernel_rfl) (by kernel_rfl) (by kernel_rfl) rfl (ps_pick_t rfl rfl).pl (by kernel_rfl) (pkc (by repeat (first | exact pk_head _ _ | apply pk_tail)) (pkn _)) ?_
    refine H_take (i := 18) (some 6) rfl rfl (by kernel_rfl) (by kernel_rfl) (by kernel_rfl) rfl (ps_assign rfl).pl (by kernel_rfl) (pkc (by repeat (first | exact pk_head _ _ | apply pk_tail)) (pkn _)) ?_
    refine H_done (by kernel_rfl) ?_
    repeat (first | refine CW.seq ?_ | refine PW.then_ ?_ | refine CW.block ?_ | refine CW.skip ?_ | refine CW.ret ?_ | refine PW.then_ret ?_ | refine PW.block_ret ?_ | refine Cut.ret ?_ | refine Rnd.ret ?_ | refine PW.block_normal ?_ | refine CW.exit ?_ | refine PW.then_exit ?_ | refine PW.block_hit ?_ | refine PW.block_miss rfl ?_ | refine Cut.exit ?_ | refine Rnd.exit ?_)
    exact Fin.ret1 (v := .bool true) rfl [bag (blks W)] rfl ⟨rfl, rfl⟩ (by repeat (first | exact Ent.refl _ | (apply Ent.cons; · repeat (first | exact pk_head _ _ | apply pk_tail)) | apply Ent.skip))

namespace u128Orders
open Go.ChangeShapes Go.WideShapes Go.ChangeAt Go.RowKit
theorem own : ownKnob Try.prog.godebug = none := by kernel_rfl
theorem laidOut : laidOutB Try.prog = true := by kernel_rfl
set_option maxRecDepth 100000 in
theorem lifted (os : Os) (started : os.Started) (H : Type) (enc : TypeId × Value → H) :
    ReturnsInHanded {} Try.checked os 5 .any (Rows.u128OrdersSpec.pre6 enc Try.prog Try.f5 Rows.u128OrdersRow.domain false) (Rows.u128OrdersSpec.post enc Try.prog Try.f5 false true false false) := by
  refine returnsInHanded_of_change (C := Try.checked) own started (by kernel_rfl) Try.func5
    (ChangeSpec.witness6 (enc := enc) (C := Try.checked) false ⟨#[], #[(.agg (([Value.int .u64 0]) ++ ([Value.int .u64 0])).toArray), (.agg (([Value.int .u64 0]) ++ ([Value.int .u64 0])).toArray), (.agg (([Value.int .u64 0]) ++ ([Value.int .u64 0])).toArray)], []⟩ 8 (by kernel_rfl) (by kernel_rfl) (by kernel_rfl) (by kernel_rfl)) ?_
  intro W base args ds gs before hval0 hW hcnd _
  have hval : ∀ (j : Nat) t v, Try.f5.params[j]? = some t → args[j]? = some v → Value.okWide Try.prog W .any base t v := hval0
  have hW' := hW
  obtain ⟨p, q, hA0, hV, rfl, hfz, hnd⟩ := hW
  have hA : DataW.TrodAll enc Try.prog W 0 (fun _ => true) true Try.f5.params.toList args.toList ds p := hA0
  rw [Try.params5] at hA hval
  obtain ⟨v0, vs0, d0, ds0, p0, q0, hargs, rfl, rfl, h0, r0⟩ := trodAll_cons hA
  obtain ⟨v1, vs1, d1, ds1, p1, q1, rfl, rfl, rfl, h1, r1⟩ := trodAll_cons r0
  obtain ⟨v2, vs2, d2, ds2, p2, q2, rfl, rfl, rfl, h2, r2⟩ := trodAll_cons r1
  obtain ⟨rfl, rfl, rfl⟩ := trodAll_nil r2
  obtain rfl : args = #[v0, v1, v2] := by cases args; simp_all
  obtain ⟨rfl, rfl⟩ := trodVars_none hV
  obtain ⟨cs0, rfl, hcs0⟩ := okWide_agg T.ag27 (hval 0 27 v0 rfl rfl)
  obtain ⟨fu0, hf0⟩ := h0
  obtain ⟨a0, b0, c0⟩ := open_apiNum hf0
  obtain ⟨cs1, rfl, hcs1⟩ := okWide_agg T.ag27 (hval 1 27 v1 rfl rfl)
  obtain ⟨fu1, hf1⟩ := h1
  obtain ⟨a1, b1, c1⟩ := open_apiNum hf1
  obtain ⟨cs2, rfl, hcs2⟩ := okWide_agg T.ag27 (hval 2 27 v2 rfl rfl)
  obtain ⟨fu2, hf2⟩ := h2
  obtain ⟨a2, b2, c2⟩ := open_apiNum hf2
  simp only [List.append_nil] at hW'
  refine (LawOf.calls (U128Orders_law W _ a0 b0 c0 _ a1 b1 c1 _ a2 b2 c2)).mono fun e W' ⟨he, hb⟩ => ?_
  subst he
  exact ⟨_, rfl, law_post laidOut rfl (tb := 4) (by kernel_rfl) T.un4 (by intro t ht; rw [Try.params5] at ht; simp only [List.mem_cons, List.not_mem_nil, or_false] at ht; rcases ht with rfl | rfl | rfl <;> exact ⟨by kernel_rfl, by decide +kernel⟩) rfl hW' hb⟩
theorem holds : Rows.U128OrdersSaid :=
  OpenClaim.holds_of_wide 5 Try.f5 rfl rfl rfl rfl rfl rfl rfl ⟨rfl, rfl, rfl, rfl, rfl⟩ rfl rfl rfl rfl rfl (by kernel_rfl) Try.func5 (by kernel_rfl)
    (of_decide_eq_true (by kernel_rfl)) (by unfold Func.isWrapper; rw [if_neg (of_decide_eq_false (by kernel_rfl))]; exact ⟨rfl, rfl⟩)
    (fun os started H enc _ => lifted os started H enc)
end u128Orders
end Go.Proofs.Ytafalcebolbbeaa
