/- The law WireApart: unlike requests have unlike bytes: it answers true for every two requests (no condition). -/
import Derived.Test.YtpcjjchanjdkaaaReqP
import Derived.Test.YtpcjjchanjdkaaaRows
namespace Go.Proofs.Ytpcjjchanjdkaaa
open Go Go.SL
set_option linter.unusedVariables false
set_option linter.unusedSimpArgs false

theorem apart_same (q r : RQ) (hq : TameOk q) (hr : TameOk r) : (decide (reqB q = reqB r) == sameB q r) = true := by
  by_cases h : q = r
  · rw [sameB_t h, h]; simp
  · rw [sameB_f h]
    have : reqB q ≠ reqB r := fun e => h (reqB_inj hq hr e)
    simp [this]
theorem WireApart_law (W : World) (cs0 : List Value) (s0 : RQ × Value × Value) (e0 : cs0 = rqCells s0.1 s0.2.1 s0.2.2) (hi0 : ∃ ga gt, ReqIn (bag (blks W)) s0.1 s0.2.1 s0.2.2 ga gt) (cs1 : List Value) (s1 : RQ × Value × Value) (e1 : cs1 = rqCells s1.1 s1.2.1 s1.2.2) (hi1 : ∃ ga gt, ReqIn (bag (blks W)) s1.1 s1.2.1 s1.2.2 ga gt) :
    LawOf Try.prog 3 [.agg cs0.toArray, .agg cs1.toArray] W := by
  subst e0; subst e1
  obtain ⟨q, av, tv⟩ := s0
  obtain ⟨r, bv', sv⟩ := s1
  obtain ⟨ga, gt, hi⟩ := hi0
  obtain ⟨ha, ht, hj⟩ := hi1
  dsimp only at hi hj ⊢
  have hone1 := rqCells_one (q := q) hi.ra hi.rt
  have hone2 := rqCells_one (q := r) hj.ra hj.rt
  obtain ⟨o1, hl1⟩ := light_of (q := q) hi.ra hi.rt
  obtain ⟨o2, hl2⟩ := light_of (q := r) hj.ra hj.rt
  have ht1 := Tame_spec (bag (blks W)) q av tv ga gt hi.ea hi.et hi.ra hi.rt hi.ka hi.kt
  have ht2 := Tame_spec (bag (blks W)) r bv' sv ha ht hj.ea hj.et hj.ra hj.rt hj.ka hj.kt
  have k1 := tame_ok q hi.id hi.accs hi.trs
  have k2 := tame_ok r hj.id hj.accs hj.trs
  have hap := apart_same _ _ k1 k2
  refine FSpec.intro Try.func3 rfl 30 Try.ntmps3 (Nat.le_of_ble_eq_true rfl) fun w0 F => ?_
  show CW _ _ _ _ _ _ (_ :: F)
  repeat (first | refine CW.seq ?_ | refine PW.then_ ?_ | refine CW.block ?_ | refine CW.skip ?_ | refine CW.ret ?_ | refine PW.then_ret ?_ | refine PW.block_ret ?_ | refine Cut.ret ?_ | refine Rnd.ret ?_ | refine PW.block_normal ?_ | refine CW.exit ?_ | refine PW.then_exit ?_ | refine PW.block_hit ?_ | refine PW.block_miss rfl ?_ | refine Cut.exit ?_ | refine Rnd.exit ?_)
  refine CW.region ?_
  refine LE (os_box rfl (by rfl)) ?_
  rintro _ _ ⟨b2, rfl, rfl⟩
  refine LE (os_box rfl (by rfl)) ?_
  rintro _ _ ⟨b3, rfl, rfl⟩
  refine L1 (ps_assign rfl).os ?_
  refine LW.nil ?_
  repeat (first | refine CW.seq ?_ | refine PW.then_ ?_ | refine CW.block ?_ | refine CW.skip ?_ | refine CW.ret ?_ | refine PW.then_ret ?_ | refine PW.block_ret ?_ | refine Cut.ret ?_ | refine Rnd.ret ?_ | refine PW.block_normal ?_ | refine CW.exit ?_ | refine PW.then_exit ?_ | refine PW.block_hit ?_ | refine PW.block_miss rfl ?_ | refine Cut.exit ?_ | refine Rnd.exit ?_)
  refine CW.region ?_
  refine L1 (os_call0 fit_spec Try.func11 (by decide +kernel) rfl rfl) ?_
  refine L1 (ps_not rfl).os ?_
  refine LW.nil ?_
  repeat (first | refine CW.seq ?_ | refine PW.then_ ?_ | refine CW.block ?_ | refine CW.skip ?_ | refine CW.ret ?_ | refine PW.then_ret ?_ | refine PW.block_ret ?_ | refine Cut.ret ?_ | refine Rnd.ret ?_ | refine PW.block_normal ?_ | refine CW.exit ?_ | refine PW.then_exit ?_ | refine PW.block_hit ?_ | refine PW.block_miss rfl ?_ | refine Cut.exit ?_ | refine Rnd.exit ?_)
  refine CW.cond_false rfl ?_
  repeat (first | refine CW.seq ?_ | refine PW.then_ ?_ | refine CW.block ?_ | refine CW.skip ?_ | refine CW.ret ?_ | refine PW.then_ret ?_ | refine PW.block_ret ?_ | refine Cut.ret ?_ | refine Rnd.ret ?_ | refine PW.block_normal ?_ | refine CW.exit ?_ | refine PW.then_exit ?_ | refine PW.block_hit ?_ | refine PW.block_miss rfl ?_ | refine Cut.exit ?_ | refine Rnd.exit ?_)
  by_cases hol : o1 = true ∧ o2 = true
  · obtain ⟨rfl, rfl⟩ := hol
    refine CW.region ?_
    refine L1 (os_loadAll (b := b2) (cs := rqCells q av tv) (by repeat (first | exact pk_head _ _ | apply pk_tail)) T.ag28 (by exact T.sz28) rfl) ?_
    refine L1 (os_call0 hl1 Try.func12 (by decide +kernel) rfl rfl) ?_
    refine L1 (ps_not rfl).os ?_
    refine L1 (ps_move rfl).os ?_
    refine LG1 ?_ (os_loadAll (b := b3) (cs := rqCells r bv' sv) (by repeat (first | exact pk_head _ _ | apply pk_tail)) T.ag28 (by exact T.sz28) rfl) ?_
    · exact rfl
    refine LG1 ?_ (os_call0 hl2 Try.func12 (by decide +kernel) rfl rfl) ?_
    · exact rfl
    refine LG1 ?_ (ps_not rfl).os ?_
    · exact rfl
    refine L1 (ps_pick_f rfl rfl).os ?_
    refine LW.nil ?_
    repeat (first | refine CW.seq ?_ | refine PW.then_ ?_ | refine CW.block ?_ | refine CW.skip ?_ | refine CW.ret ?_ | refine PW.then_ret ?_ | refine PW.block_ret ?_ | refine Cut.ret ?_ | refine Rnd.ret ?_ | refine PW.block_normal ?_ | refine CW.exit ?_ | refine PW.then_exit ?_ | refine PW.block_hit ?_ | refine PW.block_miss rfl ?_ | refine Cut.exit ?_ | refine Rnd.exit ?_)
    refine CW.cond_false rfl ?_
    repeat (first | refine CW.seq ?_ | refine PW.then_ ?_ | refine CW.block ?_ | refine CW.skip ?_ | refine CW.ret ?_ | refine PW.then_ret ?_ | refine PW.block_ret ?_ | refine Cut.ret ?_ | refine Rnd.ret ?_ | refine PW.block_normal ?_ | refine CW.exit ?_ | refine PW.then_exit ?_ | refine PW.block_hit ?_ | refine PW.block_miss rfl ?_ | refine Cut.exit ?_ | refine Rnd.exit ?_)
    refine CW.cutB (α := Value × Value × Asn × Value × Value × Asn) [15, 16, 17, 18] (fun s => (RowsR s.2.2.1 s.1 46 ((tameQ q).accs.map accCells) ∧ RowsR s.2.2.1 s.2.1 16 ((tameQ q).trs.map trCells)) ∧ RowsR s.2.2.2.2.2 s.2.2.2.1 46 ((tameQ r).accs.map accCells) ∧ RowsR s.2.2.2.2.2 s.2.2.2.2.1 16 ((tameQ r).trs.map trCells)) (fun _ => [])
      (fun s => cb b2 28 (rqCells (tameQ q) s.1 s.2.1) :: cb b3 28 (rqCells (tameQ r) s.2.2.2.1 s.2.2.2.2.1) :: s.2.2.1 :: s.2.2.2.2.2 :: bag (blks W) :: F) ?_ ?_
    · refine CW.drawH [cb b3 28 (rqCells r bv' sv)] [5] T.mixed ?_
      refine H_take (i := 2) (some 17) rfl rfl (by kernel_rfl) (by kernel_rfl) (by kernel_rfl) rfl (pl_loadAll (b := b3) (cs := rqCells r bv' sv) (by repeat (first | exact pk_head _ _ | apply pk_tail)) T.ag28 (by exact T.sz28) rfl) (by kernel_rfl) (pkc (by repeat (first | exact pk_head _ _ | apply pk_tail)) (pkn _)) ?_
      refine H_branch (rs := [0]) (by kernel_rfl) (by simp) ?_
      refine HR.cons1 (i := 0) (some 15) rfl rfl rfl (os_loadAll (b := b2) (cs := rqCells q av tv) (by repeat (first | exact pk_head _ _ | apply pk_tail)) T.ag28 (by exact T.sz28) rfl) (pkc (by repeat (first | exact pk_head _ _ | apply pk_tail)) (pkn _)) ?_ ?_
      · skip
        refine H_branch (rs := [1]) (by kernel_rfl) (by simp) ?_
        refine HR.consE (i := 1) (some 16) rfl rfl rfl (os_call ht1 Try.func13 (by decide +kernel) rfl rfl (by repeat (first | exact pk_head _ _ | apply pk_tail))) ?_ ?_
        · rintro _ _ ⟨_, ⟨av1, tv1, B1, rfl, rfl, r1, r2⟩, rfl⟩
          refine ⟨fun _ => ⟨_, (pkc (by repeat (first | exact pk_head _ _ | apply pk_tail)) (pkn _))⟩, ?_⟩
          refine H_branch (rs := [3]) (by kernel_rfl) (by simp) ?_
          refine HR.consE (i := 3) (some 18) rfl rfl rfl (os_call ht2 Try.func13 (by decide +kernel) rfl rfl (by repeat (first | exact pk_head _ _ | apply pk_tail))) ?_ ?_
          · rintro _ _ ⟨_, ⟨av2, tv2, B2, rfl, rfl, r3, r4⟩, rfl⟩
            refine ⟨fun _ => ⟨_, (pkc (by repeat (first | exact pk_head _ _ | apply pk_tail)) (pkn _))⟩, ?_⟩
            refine H_branch (rs := [4]) (by kernel_rfl) (by simp) ?_
            refine HR.cons1 (i := 4) none rfl rfl rfl (os_storeAll (b := b2) (vs := rqCells (tameQ q) av1 tv1) (by repeat (first | exact pk_head _ _ | apply pk_tail)) (by exact T.sz28) rfl rfl (rqCells_one r1 r2) (by rfl)) (pkc (by repeat (first | exact pk_head _ _ | apply pk_tail)) (pkn _)) ?_ ?_
            · skip
              refine H_branch (rs := [5]) (by kernel_rfl) (by simp) ?_
              refine HR.consL (i := 5) none rfl rfl rfl (os_storeAll (b := b3) (vs := rqCells (tameQ r) av2 tv2) (by repeat (first | exact pk_head _ _ | apply pk_tail)) (by exact T.sz28) rfl rfl (rqCells_one r3 r4) (by rfl)) (by decide) ?_ ?_
              · skip
                refine H_done (by kernel_rfl) ?_
                exact Meet.cut (av1, tv1, B1, av2, tv2, B2) ⟨⟨r1, r2⟩, r3, r4⟩ (by repeat (first | (with_reducible exact Ag.refl _ _) | (with_reducible apply Ag.pu0) | ((with_reducible refine Ag.pu _ ?_ ?_); · exact rfl) | ((with_reducible refine Ag.mix ?_ ?_); · exact rfl) | ((with_reducible refine Ag.pus ?_ ?_); · exact rfl))) (by exact trivial) (by repeat (first | exact Ent.refl _ | (apply Ent.cons; · repeat (first | exact pk_head _ _ | apply pk_tail)) | apply Ent.skip))
              exact HR.nil
            exact HR.nil
          exact HR.nil
        exact HR.nil
      exact HR.nil
    rintro ⟨a1, t1, B1, a2, t2, B2⟩ g5 ⟨⟨r1, r2⟩, r3, r4⟩
    dsimp only at r1 r2 r3 r4 ⊢
    generalize tameQ q = Q at *
    generalize tameQ r = R at *
    have hB1 := Request_spec B1 Q a1 t1 k1.rq r1 r2
    have hB2 := Request_spec B2 R a2 t2 k2.rq r3 r4
    have hS := Same_spec B1 B2 Q R a1 t1 a2 t2 r1 r2 r3 r4
    generalize reqB Q = x at *
    generalize reqB R = y at *
    generalize sameB Q R = z at *
    repeat (first | refine CW.seq ?_ | refine PW.then_ ?_ | refine CW.block ?_ | refine CW.skip ?_ | refine CW.ret ?_ | refine PW.then_ret ?_ | refine PW.block_ret ?_ | refine Cut.ret ?_ | refine Rnd.ret ?_ | refine PW.block_normal ?_ | refine CW.exit ?_ | refine PW.then_exit ?_ | refine PW.block_hit ?_ | refine PW.block_miss rfl ?_ | refine Cut.exit ?_ | refine Rnd.exit ?_)
    refine CW.drawH [cb b2 28 (rqCells Q a1 t1), cb b3 28 (rqCells R a2 t2)] [] T.mixed ?_
    refine H_take (i := 0) (some 19) rfl rfl (by kernel_rfl) (by kernel_rfl) (by kernel_rfl) rfl (pl_loadAll (b := b2) (cs := rqCells Q a1 t1) (by repeat (first | exact pk_head _ _ | apply pk_tail)) T.ag28 (by exact T.sz28) rfl) (by kernel_rfl) (pkc (by repeat (first | exact pk_head _ _ | apply pk_tail)) (pkc (by repeat (first | exact pk_head _ _ | apply pk_tail)) (pkn _))) ?_
    refine H_take (i := 3) (some 22) rfl rfl (by kernel_rfl) (by kernel_rfl) (by kernel_rfl) rfl (pl_loadAll (b := b3) (cs := rqCells R a2 t2) (by repeat (first | exact pk_head _ _ | apply pk_tail)) T.ag28 (by exact T.sz28) rfl) (by kernel_rfl) (pkc (by repeat (first | exact pk_head _ _ | apply pk_tail)) (pkc (by repeat (first | exact pk_head _ _ | apply pk_tail)) (pkn _))) ?_
    refine H_take (i := 7) (some 26) rfl rfl (by kernel_rfl) (by kernel_rfl) (by kernel_rfl) rfl (pl_loadAll (b := b2) (cs := rqCells Q a1 t1) (by repeat (first | exact pk_head _ _ | apply pk_tail)) T.ag28 (by exact T.sz28) rfl) (by kernel_rfl) (pkc (by repeat (first | exact pk_head _ _ | apply pk_tail)) (pkc (by repeat (first | exact pk_head _ _ | apply pk_tail)) (pkn _))) ?_
    refine H_take (i := 8) (some 27) rfl rfl (by kernel_rfl) (by kernel_rfl) (by kernel_rfl) rfl (pl_loadAll (b := b3) (cs := rqCells R a2 t2) (by repeat (first | exact pk_head _ _ | apply pk_tail)) T.ag28 (by exact T.sz28) rfl) (by kernel_rfl) (pkc (by repeat (first | exact pk_head _ _ | apply pk_tail)) (pkc (by repeat (first | exact pk_head _ _ | apply pk_tail)) (pkn _))) ?_
    refine H_branch (rs := [1]) (by kernel_rfl) (by simp) ?_
    refine HR.consE (i := 1) (some 20) rfl rfl rfl (os_call hB1 Try.func14 (by decide +kernel) rfl rfl (by repeat (first | exact pk_head _ _ | apply pk_tail))) ?_ ?_
    · rintro _ _ ⟨_, ⟨u1, d1, rfl, rfl⟩, rfl⟩
      refine ⟨fun _ => ⟨_, (pkc (by repeat (first | exact pk_head _ _ | apply pk_tail)) (pkc (by repeat (first | exact pk_head _ _ | apply pk_tail)) (pkn _)))⟩, ?_⟩
      refine slOwn_info (pk_head _ _) fun m1 m2 m3 => ?_
      refine H_branch (rs := [2, 4]) (by kernel_rfl) (by simp) ?_
      refine HR.cons1 (i := 2) (some 21) rfl rfl rfl (os_str x T.un32 T.un5 T.un9 rfl rfl ((ByR.own rfl m1 m3).src (by repeat (first | exact pk_head _ _ | apply pk_tail)))) (pkc (by repeat (first | exact pk_head _ _ | apply pk_tail)) (pkc (by repeat (first | exact pk_head _ _ | apply pk_tail)) (pkn _))) ?_ ?_
      · skip
        refine H_branch (rs := [4]) (by kernel_rfl) (by simp) ?_
        refine HR.consE (i := 4) (some 23) rfl rfl rfl (os_call hB2 Try.func14 (by decide +kernel) rfl rfl (by repeat (first | exact pk_head _ _ | apply pk_tail))) ?_ ?_
        · rintro _ _ ⟨_, ⟨u2, d2, rfl, rfl⟩, rfl⟩
          refine ⟨fun _ => ⟨_, (pkc (by repeat (first | exact pk_head _ _ | apply pk_tail)) (pkc (by repeat (first | exact pk_head _ _ | apply pk_tail)) (pkn _)))⟩, ?_⟩
          refine slOwn_info (pk_head _ _) fun n1 n2 n3 => ?_
          refine H_branch (rs := [5, 9]) (by kernel_rfl) (by simp) ?_
          refine HR.cons1 (i := 5) (some 24) rfl rfl rfl (os_str y T.un32 T.un5 T.un9 rfl rfl ((ByR.own rfl n1 n3).src (by repeat (first | exact pk_head _ _ | apply pk_tail)))) (pkc (by repeat (first | exact pk_head _ _ | apply pk_tail)) (pkc (by repeat (first | exact pk_head _ _ | apply pk_tail)) (pkn _))) ?_ ?_
          · skip
            refine H_take (i := 6) (some 25) rfl rfl (by kernel_rfl) (by kernel_rfl) (by kernel_rfl) rfl (ps_strV_eql x y rfl rfl).pl (by kernel_rfl) (pkc (by repeat (first | exact pk_head _ _ | apply pk_tail)) (pkc (by repeat (first | exact pk_head _ _ | apply pk_tail)) (pkn _))) ?_
            refine H_branch (rs := [9]) (by kernel_rfl) (by simp) ?_
            refine HR.cons1 (i := 9) (some 28) rfl rfl rfl (os_call2 hS Try.func15 (by decide +kernel) rfl rfl (by repeat (first | exact pk_head _ _ | apply pk_tail)) (by repeat (first | exact pk_head _ _ | apply pk_tail))) (pkc (by repeat (first | exact pk_head _ _ | apply pk_tail)) (pkc (by repeat (first | exact pk_head _ _ | apply pk_tail)) (pkn _))) ?_ ?_
            · skip
              refine H_take (i := 10) (some 29) rfl rfl (by kernel_rfl) (by kernel_rfl) (by kernel_rfl) rfl (ps_to (congrArg Value.bool hap) (ps_bool_eql T.un4 rfl rfl)).pl (by kernel_rfl) (pkc (by repeat (first | exact pk_head _ _ | apply pk_tail)) (pkc (by repeat (first | exact pk_head _ _ | apply pk_tail)) (pkn _))) ?_
              refine H_take (i := 11) (some 4) rfl rfl (by kernel_rfl) (by kernel_rfl) (by kernel_rfl) rfl (ps_assign rfl).pl (by kernel_rfl) (pkc (by repeat (first | exact pk_head _ _ | apply pk_tail)) (pkc (by repeat (first | exact pk_head _ _ | apply pk_tail)) (pkn _))) ?_
              refine H_done (by kernel_rfl) ?_
              repeat (first | refine CW.seq ?_ | refine PW.then_ ?_ | refine CW.block ?_ | refine CW.skip ?_ | refine CW.ret ?_ | refine PW.then_ret ?_ | refine PW.block_ret ?_ | refine Cut.ret ?_ | refine Rnd.ret ?_ | refine PW.block_normal ?_ | refine CW.exit ?_ | refine PW.then_exit ?_ | refine PW.block_hit ?_ | refine PW.block_miss rfl ?_ | refine Cut.exit ?_ | refine Rnd.exit ?_)
              exact Fin.ret1 (v := .bool true) rfl [bag (blks W)] rfl ⟨rfl, rfl⟩ (by repeat (first | exact Ent.refl _ | (apply Ent.cons; · repeat (first | exact pk_head _ _ | apply pk_tail)) | apply Ent.skip))
            exact HR.nil
          refine HR.cons1 (i := 9) (some 28) rfl rfl rfl (os_call2 hS Try.func15 (by decide +kernel) rfl rfl (by repeat (first | exact pk_head _ _ | apply pk_tail)) (by repeat (first | exact pk_head _ _ | apply pk_tail))) (pkc (by repeat (first | exact pk_head _ _ | apply pk_tail)) (pkc (by repeat (first | exact pk_head _ _ | apply pk_tail)) (pkn _))) ?_ ?_
          · skip
            refine H_branch (rs := [5]) (by kernel_rfl) (by simp) ?_
            refine HR.cons1 (i := 5) (some 24) rfl rfl rfl (os_str y T.un32 T.un5 T.un9 rfl rfl ((ByR.own rfl n1 n3).src (by repeat (first | exact pk_head _ _ | apply pk_tail)))) (pkc (by repeat (first | exact pk_head _ _ | apply pk_tail)) (pkc (by repeat (first | exact pk_head _ _ | apply pk_tail)) (pkn _))) ?_ ?_
            · skip
              refine H_take (i := 6) (some 25) rfl rfl (by kernel_rfl) (by kernel_rfl) (by kernel_rfl) rfl (ps_strV_eql x y rfl rfl).pl (by kernel_rfl) (pkc (by repeat (first | exact pk_head _ _ | apply pk_tail)) (pkc (by repeat (first | exact pk_head _ _ | apply pk_tail)) (pkn _))) ?_
              refine H_take (i := 10) (some 29) rfl rfl (by kernel_rfl) (by kernel_rfl) (by kernel_rfl) rfl (ps_to (congrArg Value.bool hap) (ps_bool_eql T.un4 rfl rfl)).pl (by kernel_rfl) (pkc (by repeat (first | exact pk_head _ _ | apply pk_tail)) (pkc (by repeat (first | exact pk_head _ _ | apply pk_tail)) (pkn _))) ?_
              refine H_take (i := 11) (some 4) rfl rfl (by kernel_rfl) (by kernel_rfl) (by kernel_rfl) rfl (ps_assign rfl).pl (by kernel_rfl) (pkc (by repeat (first | exact pk_head _ _ | apply pk_tail)) (pkc (by repeat (first | exact pk_head _ _ | apply pk_tail)) (pkn _))) ?_
              refine H_done (by kernel_rfl) ?_
              repeat (first | refine CW.seq ?_ | refine PW.then_ ?_ | refine CW.block ?_ | refine CW.skip ?_ | refine CW.ret ?_ | refine PW.then_ret ?_ | refine PW.block_ret ?_ | refine Cut.ret ?_ | refine Rnd.ret ?_ | refine PW.block_normal ?_ | refine CW.exit ?_ | refine PW.then_exit ?_ | refine PW.block_hit ?_ | refine PW.block_miss rfl ?_ | refine Cut.exit ?_ | refine Rnd.exit ?_)
              exact Fin.ret1 (v := .bool true) rfl [bag (blks W)] rfl ⟨rfl, rfl⟩ (by repeat (first | exact Ent.refl _ | (apply Ent.cons; · repeat (first | exact pk_head _ _ | apply pk_tail)) | apply Ent.skip))
            exact HR.nil
          exact HR.nil
        exact HR.nil
      refine HR.consE (i := 4) (some 23) rfl rfl rfl (os_call hB2 Try.func14 (by decide +kernel) rfl rfl (by repeat (first | exact pk_head _ _ | apply pk_tail))) ?_ ?_
      · rintro _ _ ⟨_, ⟨u2, d2, rfl, rfl⟩, rfl⟩
        refine ⟨fun _ => ⟨_, (pkc (by repeat (first | exact pk_head _ _ | apply pk_tail)) (pkc (by repeat (first | exact pk_head _ _ | apply pk_tail)) (pkn _)))⟩, ?_⟩
        refine slOwn_info (pk_head _ _) fun n1 n2 n3 => ?_
        refine H_branch (rs := [2, 5, 9]) (by kernel_rfl) (by simp) ?_
        refine HR.cons1 (i := 2) (some 21) rfl rfl rfl (os_str x T.un32 T.un5 T.un9 rfl rfl ((ByR.own rfl m1 m3).src (by repeat (first | exact pk_head _ _ | apply pk_tail)))) (pkc (by repeat (first | exact pk_head _ _ | apply pk_tail)) (pkc (by repeat (first | exact pk_head _ _ | apply pk_tail)) (pkn _))) ?_ ?_
        · skip
          refine H_branch (rs := [5, 9]) (by kernel_rfl) (by simp) ?_
          refine HR.cons1 (i := 5) (some 24) rfl rfl rfl (os_str y T.un32 T.un5 T.un9 rfl rfl ((ByR.own rfl n1 n3).src (by repeat (first | exact pk_head _ _ | apply pk_tail)))) (pkc (by repeat (first | exact pk_head _ _ | apply pk_tail)) (pkc (by repeat (first | exact pk_head _ _ | apply pk_tail)) (pkn _))) ?_ ?_
          · skip
            refine H_take (i := 6) (some 25) rfl rfl (by kernel_rfl) (by kernel_rfl) (by kernel_rfl) rfl (ps_strV_eql x y rfl rfl).pl (by kernel_rfl) (pkc (by repeat (first | exact pk_head _ _ | apply pk_tail)) (pkc (by repeat (first | exact pk_head _ _ | apply pk_tail)) (pkn _))) ?_
            refine H_branch (rs := [9]) (by kernel_rfl) (by simp) ?_
            refine HR.cons1 (i := 9) (some 28) rfl rfl rfl (os_call2 hS Try.func15 (by decide +kernel) rfl rfl (by repeat (first | exact pk_head _ _ | apply pk_tail)) (by repeat (first | exact pk_head _ _ | apply pk_tail))) (pkc (by repeat (first | exact pk_head _ _ | apply pk_tail)) (pkc (by repeat (first | exact pk_head _ _ | apply pk_tail)) (pkn _))) ?_ ?_
            · skip
              refine H_take (i := 10) (some 29) rfl rfl (by kernel_rfl) (by kernel_rfl) (by kernel_rfl) rfl (ps_to (congrArg Value.bool hap) (ps_bool_eql T.un4 rfl rfl)).pl (by kernel_rfl) (pkc (by repeat (first | exact pk_head _ _ | apply pk_tail)) (pkc (by repeat (first | exact pk_head _ _ | apply pk_tail)) (pkn _))) ?_
              refine H_take (i := 11) (some 4) rfl rfl (by kernel_rfl) (by kernel_rfl) (by kernel_rfl) rfl (ps_assign rfl).pl (by kernel_rfl) (pkc (by repeat (first | exact pk_head _ _ | apply pk_tail)) (pkc (by repeat (first | exact pk_head _ _ | apply pk_tail)) (pkn _))) ?_
              refine H_done (by kernel_rfl) ?_
              repeat (first | refine CW.seq ?_ | refine PW.then_ ?_ | refine CW.block ?_ | refine CW.skip ?_ | refine CW.ret ?_ | refine PW.then_ret ?_ | refine PW.block_ret ?_ | refine Cut.ret ?_ | refine Rnd.ret ?_ | refine PW.block_normal ?_ | refine CW.exit ?_ | refine PW.then_exit ?_ | refine PW.block_hit ?_ | refine PW.block_miss rfl ?_ | refine Cut.exit ?_ | refine Rnd.exit ?_)
              exact Fin.ret1 (v := .bool true) rfl [bag (blks W)] rfl ⟨rfl, rfl⟩ (by repeat (first | exact Ent.refl _ | (apply Ent.cons; · repeat (first | exact pk_head _ _ | apply pk_tail)) | apply Ent.skip))
            exact HR.nil
          refine HR.cons1 (i := 9) (some 28) rfl rfl rfl (os_call2 hS Try.func15 (by decide +kernel) rfl rfl (by repeat (first | exact pk_head _ _ | apply pk_tail)) (by repeat (first | exact pk_head _ _ | apply pk_tail))) (pkc (by repeat (first | exact pk_head _ _ | apply pk_tail)) (pkc (by repeat (first | exact pk_head _ _ | apply pk_tail)) (pkn _))) ?_ ?_
          · skip
            refine H_branch (rs := [5]) (by kernel_rfl) (by simp) ?_
            refine HR.cons1 (i := 5) (some 24) rfl rfl rfl (os_str y T.un32 T.un5 T.un9 rfl rfl ((ByR.own rfl n1 n3).src (by repeat (first | exact pk_head _ _ | apply pk_tail)))) (pkc (by repeat (first | exact pk_head _ _ | apply pk_tail)) (pkc (by repeat (first | exact pk_head _ _ | apply pk_tail)) (pkn _))) ?_ ?_
            · skip
              refine H_take (i := 6) (some 25) rfl rfl (by kernel_rfl) (by kernel_rfl) (by kernel_rfl) rfl (ps_strV_eql x y rfl rfl).pl (by kernel_rfl) (pkc (by repeat (first | exact pk_head _ _ | apply pk_tail)) (pkc (by repeat (first | exact pk_head _ _ | apply pk_tail)) (pkn _))) ?_
              refine H_take (i := 10) (some 29) rfl rfl (by kernel_rfl) (by kernel_rfl) (by kernel_rfl) rfl (ps_to (congrArg Value.bool hap) (ps_bool_eql T.un4 rfl rfl)).pl (by kernel_rfl) (pkc (by repeat (first | exact pk_head _ _ | apply pk_tail)) (pkc (by repeat (first | exact pk_head _ _ | apply pk_tail)) (pkn _))) ?_
              refine H_take (i := 11) (some 4) rfl rfl (by kernel_rfl) (by kernel_rfl) (by kernel_rfl) rfl (ps_assign rfl).pl (by kernel_rfl) (pkc (by repeat (first | exact pk_head _ _ | apply pk_tail)) (pkc (by repeat (first | exact pk_head _ _ | apply pk_tail)) (pkn _))) ?_
              refine H_done (by kernel_rfl) ?_
              repeat (first | refine CW.seq ?_ | refine PW.then_ ?_ | refine CW.block ?_ | refine CW.skip ?_ | refine CW.ret ?_ | refine PW.then_ret ?_ | refine PW.block_ret ?_ | refine Cut.ret ?_ | refine Rnd.ret ?_ | refine PW.block_normal ?_ | refine CW.exit ?_ | refine PW.then_exit ?_ | refine PW.block_hit ?_ | refine PW.block_miss rfl ?_ | refine Cut.exit ?_ | refine Rnd.exit ?_)
              exact Fin.ret1 (v := .bool true) rfl [bag (blks W)] rfl ⟨rfl, rfl⟩ (by repeat (first | exact Ent.refl _ | (apply Ent.cons; · repeat (first | exact pk_head _ _ | apply pk_tail)) | apply Ent.skip))
            exact HR.nil
          exact HR.nil
        refine HR.cons1 (i := 5) (some 24) rfl rfl rfl (os_str y T.un32 T.un5 T.un9 rfl rfl ((ByR.own rfl n1 n3).src (by repeat (first | exact pk_head _ _ | apply pk_tail)))) (pkc (by repeat (first | exact pk_head _ _ | apply pk_tail)) (pkc (by repeat (first | exact pk_head _ _ | apply pk_tail)) (pkn _))) ?_ ?_
        · skip
          refine H_branch (rs := [2, 9]) (by kernel_rfl) (by simp) ?_
          refine HR.cons1 (i := 2) (some 21) rfl rfl rfl (os_str x T.un32 T.un5 T.un9 rfl rfl ((ByR.own rfl m1 m3).src (by repeat (first | exact pk_head _ _ | apply pk_tail)))) (pkc (by repeat (first | exact pk_head _ _ | apply pk_tail)) (pkc (by repeat (first | exact pk_head _ _ | apply pk_tail)) (pkn _))) ?_ ?_
          · skip
            refine H_take (i := 6) (some 25) rfl rfl (by kernel_rfl) (by kernel_rfl) (by kernel_rfl) rfl (ps_strV_eql x y rfl rfl).pl (by kernel_rfl) (pkc (by repeat (first | exact pk_head _ _ | apply pk_tail)) (pkc (by repeat (first | exact pk_head _ _ | apply pk_tail)) (pkn _))) ?_
            refine H_branch (rs := [9]) (by kernel_rfl) (by simp) ?_
            refine HR.cons1 (i := 9) (some 28) rfl rfl rfl (os_call2 hS Try.func15 (by decide +kernel) rfl rfl (by repeat (first | exact pk_head _ _ | apply pk_tail)) (by repeat (first | exact pk_head _ _ | apply pk_tail))) (pkc (by repeat (first | exact pk_head _ _ | apply pk_tail)) (pkc (by repeat (first | exact pk_head _ _ | apply pk_tail)) (pkn _))) ?_ ?_
            · skip
              refine H_take (i := 10) (some 29) rfl rfl (by kernel_rfl) (by kernel_rfl) (by kernel_rfl) rfl (ps_to (congrArg Value.bool hap) (ps_bool_eql T.un4 rfl rfl)).pl (by kernel_rfl) (pkc (by repeat (first | exact pk_head _ _ | apply pk_tail)) (pkc (by repeat (first | exact pk_head _ _ | apply pk_tail)) (pkn _))) ?_
              refine H_take (i := 11) (some 4) rfl rfl (by kernel_rfl) (by kernel_rfl) (by kernel_rfl) rfl (ps_assign rfl).pl (by kernel_rfl) (pkc (by repeat (first | exact pk_head _ _ | apply pk_tail)) (pkc (by repeat (first | exact pk_head _ _ | apply pk_tail)) (pkn _))) ?_
              refine H_done (by kernel_rfl) ?_
              repeat (first | refine CW.seq ?_ | refine PW.then_ ?_ | refine CW.block ?_ | refine CW.skip ?_ | refine CW.ret ?_ | refine PW.then_ret ?_ | refine PW.block_ret ?_ | refine Cut.ret ?_ | refine Rnd.ret ?_ | refine PW.block_normal ?_ | refine CW.exit ?_ | refine PW.then_exit ?_ | refine PW.block_hit ?_ | refine PW.block_miss rfl ?_ | refine Cut.exit ?_ | refine Rnd.exit ?_)
              exact Fin.ret1 (v := .bool true) rfl [bag (blks W)] rfl ⟨rfl, rfl⟩ (by repeat (first | exact Ent.refl _ | (apply Ent.cons; · repeat (first | exact pk_head _ _ | apply pk_tail)) | apply Ent.skip))
            exact HR.nil
          refine HR.cons1 (i := 9) (some 28) rfl rfl rfl (os_call2 hS Try.func15 (by decide +kernel) rfl rfl (by repeat (first | exact pk_head _ _ | apply pk_tail)) (by repeat (first | exact pk_head _ _ | apply pk_tail))) (pkc (by repeat (first | exact pk_head _ _ | apply pk_tail)) (pkc (by repeat (first | exact pk_head _ _ | apply pk_tail)) (pkn _))) ?_ ?_
          · skip
            refine H_branch (rs := [2]) (by kernel_rfl) (by simp) ?_
            refine HR.cons1 (i := 2) (some 21) rfl rfl rfl (os_str x T.un32 T.un5 T.un9 rfl rfl ((ByR.own rfl m1 m3).src (by repeat (first | exact pk_head _ _ | apply pk_tail)))) (pkc (by repeat (first | exact pk_head _ _ | apply pk_tail)) (pkc (by repeat (first | exact pk_head _ _ | apply pk_tail)) (pkn _))) ?_ ?_
            · skip
              refine H_take (i := 6) (some 25) rfl rfl (by kernel_rfl) (by kernel_rfl) (by kernel_rfl) rfl (ps_strV_eql x y rfl rfl).pl (by kernel_rfl) (pkc (by repeat (first | exact pk_head _ _ | apply pk_tail)) (pkc (by repeat (first | exact pk_head _ _ | apply pk_tail)) (pkn _))) ?_
              refine H_take (i := 10) (some 29) rfl rfl (by kernel_rfl) (by kernel_rfl) (by kernel_rfl) rfl (ps_to (congrArg Value.bool hap) (ps_bool_eql T.un4 rfl rfl)).pl (by kernel_rfl) (pkc (by repeat (first | exact pk_head _ _ | apply pk_tail)) (pkc (by repeat (first | exact pk_head _ _ | apply pk_tail)) (pkn _))) ?_
              refine H_take (i := 11) (some 4) rfl rfl (by kernel_rfl) (by kernel_rfl) (by kernel_rfl) rfl (ps_assign rfl).pl (by kernel_rfl) (pkc (by repeat (first | exact pk_head _ _ | apply pk_tail)) (pkc (by repeat (first | exact pk_head _ _ | apply pk_tail)) (pkn _))) ?_
              refine H_done (by kernel_rfl) ?_
              repeat (first | refine CW.seq ?_ | refine PW.then_ ?_ | refine CW.block ?_ | refine CW.skip ?_ | refine CW.ret ?_ | refine PW.then_ret ?_ | refine PW.block_ret ?_ | refine Cut.ret ?_ | refine Rnd.ret ?_ | refine PW.block_normal ?_ | refine CW.exit ?_ | refine PW.then_exit ?_ | refine PW.block_hit ?_ | refine PW.block_miss rfl ?_ | refine Cut.exit ?_ | refine Rnd.exit ?_)
              exact Fin.ret1 (v := .bool true) rfl [bag (blks W)] rfl ⟨rfl, rfl⟩ (by repeat (first | exact Ent.refl _ | (apply Ent.cons; · repeat (first | exact pk_head _ _ | apply pk_tail)) | apply Ent.skip))
            exact HR.nil
          exact HR.nil
        refine HR.cons1 (i := 9) (some 28) rfl rfl rfl (os_call2 hS Try.func15 (by decide +kernel) rfl rfl (by repeat (first | exact pk_head _ _ | apply pk_tail)) (by repeat (first | exact pk_head _ _ | apply pk_tail))) (pkc (by repeat (first | exact pk_head _ _ | apply pk_tail)) (pkc (by repeat (first | exact pk_head _ _ | apply pk_tail)) (pkn _))) ?_ ?_
        · skip
          refine H_branch (rs := [2, 5]) (by kernel_rfl) (by simp) ?_
          refine HR.cons1 (i := 2) (some 21) rfl rfl rfl (os_str x T.un32 T.un5 T.un9 rfl rfl ((ByR.own rfl m1 m3).src (by repeat (first | exact pk_head _ _ | apply pk_tail)))) (pkc (by repeat (first | exact pk_head _ _ | apply pk_tail)) (pkc (by repeat (first | exact pk_head _ _ | apply pk_tail)) (pkn _))) ?_ ?_
          · skip
            refine H_branch (rs := [5]) (by kernel_rfl) (by simp) ?_
            refine HR.cons1 (i := 5) (some 24) rfl rfl rfl (os_str y T.un32 T.un5 T.un9 rfl rfl ((ByR.own rfl n1 n3).src (by repeat (first | exact pk_head _ _ | apply pk_tail)))) (pkc (by repeat (first | exact pk_head _ _ | apply pk_tail)) (pkc (by repeat (first | exact pk_head _ _ | apply pk_tail)) (pkn _))) ?_ ?_
            · skip
              refine H_take (i := 6) (some 25) rfl rfl (by kernel_rfl) (by kernel_rfl) (by kernel_rfl) rfl (ps_strV_eql x y rfl rfl).pl (by kernel_rfl) (pkc (by repeat (first | exact pk_head _ _ | apply pk_tail)) (pkc (by repeat (first | exact pk_head _ _ | apply pk_tail)) (pkn _))) ?_
              refine H_take (i := 10) (some 29) rfl rfl (by kernel_rfl) (by kernel_rfl) (by kernel_rfl) rfl (ps_to (congrArg Value.bool hap) (ps_bool_eql T.un4 rfl rfl)).pl (by kernel_rfl) (pkc (by repeat (first | exact pk_head _ _ | apply pk_tail)) (pkc (by repeat (first | exact pk_head _ _ | apply pk_tail)) (pkn _))) ?_
              refine H_take (i := 11) (some 4) rfl rfl (by kernel_rfl) (by kernel_rfl) (by kernel_rfl) rfl (ps_assign rfl).pl (by kernel_rfl) (pkc (by repeat (first | exact pk_head _ _ | apply pk_tail)) (pkc (by repeat (first | exact pk_head _ _ | apply pk_tail)) (pkn _))) ?_
              refine H_done (by kernel_rfl) ?_
              repeat (first | refine CW.seq ?_ | refine PW.then_ ?_ | refine CW.block ?_ | refine CW.skip ?_ | refine CW.ret ?_ | refine PW.then_ret ?_ | refine PW.block_ret ?_ | refine Cut.ret ?_ | refine Rnd.ret ?_ | refine PW.block_normal ?_ | refine CW.exit ?_ | refine PW.then_exit ?_ | refine PW.block_hit ?_ | refine PW.block_miss rfl ?_ | refine Cut.exit ?_ | refine Rnd.exit ?_)
              exact Fin.ret1 (v := .bool true) rfl [bag (blks W)] rfl ⟨rfl, rfl⟩ (by repeat (first | exact Ent.refl _ | (apply Ent.cons; · repeat (first | exact pk_head _ _ | apply pk_tail)) | apply Ent.skip))
            exact HR.nil
          refine HR.cons1 (i := 5) (some 24) rfl rfl rfl (os_str y T.un32 T.un5 T.un9 rfl rfl ((ByR.own rfl n1 n3).src (by repeat (first | exact pk_head _ _ | apply pk_tail)))) (pkc (by repeat (first | exact pk_head _ _ | apply pk_tail)) (pkc (by repeat (first | exact pk_head _ _ | apply pk_tail)) (pkn _))) ?_ ?_
          · skip
            refine H_branch (rs := [2]) (by kernel_rfl) (by simp) ?_
            refine HR.cons1 (i := 2) (some 21) rfl rfl rfl (os_str x T.un32 T.un5 T.un9 rfl rfl ((ByR.own rfl m1 m3).src (by repeat (first | exact pk_head _ _ | apply pk_tail)))) (pkc (by repeat (first | exact pk_head _ _ | apply pk_tail)) (pkc (by repeat (first | exact pk_head _ _ | apply pk_tail)) (pkn _))) ?_ ?_
            · skip
              refine H_take (i := 6) (some 25) rfl rfl (by kernel_rfl) (by kernel_rfl) (by kernel_rfl) rfl (ps_strV_eql x y rfl rfl).pl (by kernel_rfl) (pkc (by repeat (first | exact pk_head _ _ | apply pk_tail)) (pkc (by repeat (first | exact pk_head _ _ | apply pk_tail)) (pkn _))) ?_
              refine H_take (i := 10) (some 29) rfl rfl (by kernel_rfl) (by kernel_rfl) (by kernel_rfl) rfl (ps_to (congrArg Value.bool hap) (ps_bool_eql T.un4 rfl rfl)).pl (by kernel_rfl) (pkc (by repeat (first | exact pk_head _ _ | apply pk_tail)) (pkc (by repeat (first | exact pk_head _ _ | apply pk_tail)) (pkn _))) ?_
              refine H_take (i := 11) (some 4) rfl rfl (by kernel_rfl) (by kernel_rfl) (by kernel_rfl) rfl (ps_assign rfl).pl (by kernel_rfl) (pkc (by repeat (first | exact pk_head _ _ | apply pk_tail)) (pkc (by repeat (first | exact pk_head _ _ | apply pk_tail)) (pkn _))) ?_
              refine H_done (by kernel_rfl) ?_
              repeat (first | refine CW.seq ?_ | refine PW.then_ ?_ | refine CW.block ?_ | refine CW.skip ?_ | refine CW.ret ?_ | refine PW.then_ret ?_ | refine PW.block_ret ?_ | refine Cut.ret ?_ | refine Rnd.ret ?_ | refine PW.block_normal ?_ | refine CW.exit ?_ | refine PW.then_exit ?_ | refine PW.block_hit ?_ | refine PW.block_miss rfl ?_ | refine Cut.exit ?_ | refine Rnd.exit ?_)
              exact Fin.ret1 (v := .bool true) rfl [bag (blks W)] rfl ⟨rfl, rfl⟩ (by repeat (first | exact Ent.refl _ | (apply Ent.cons; · repeat (first | exact pk_head _ _ | apply pk_tail)) | apply Ent.skip))
            exact HR.nil
          exact HR.nil
        exact HR.nil
      exact HR.nil
    exact HR.nil
  · refine CW.cutB (α := Unit) [7, 8, 9, 10, 11, 12, 13, 14] (fun _ => True) (fun _ => [(14, .bool true)]) (fun s => bag (blks W) :: F) ?_ ?_
    · cases o1
      · refine CW.region ?_
        refine L1 (os_loadAll (b := b2) (cs := rqCells q av tv) (by repeat (first | exact pk_head _ _ | apply pk_tail)) T.ag28 (by exact T.sz28) rfl) ?_
        refine L1 (os_call0 hl1 Try.func12 (by decide +kernel) rfl rfl) ?_
        refine L1 (ps_not rfl).os ?_
        refine L1 (ps_move rfl).os ?_
        refine LG0f ?_ ?_
        · exact rfl
        refine LG0f ?_ ?_
        · exact rfl
        refine LG0f ?_ ?_
        · exact rfl
        refine L1 (ps_pick_t rfl rfl).os ?_
        refine LW.nil ?_
        exact Meet.cut () trivial (by repeat (first | (with_reducible exact Ag.refl _ _) | (with_reducible apply Ag.pu0) | ((with_reducible refine Ag.pu _ ?_ ?_); · exact rfl) | ((with_reducible refine Ag.mix ?_ ?_); · exact rfl) | ((with_reducible refine Ag.pus ?_ ?_); · exact rfl))) ⟨rfl, trivial⟩ (by repeat (first | exact Ent.refl _ | (apply Ent.cons; · repeat (first | exact pk_head _ _ | apply pk_tail)) | apply Ent.skip))
      · obtain rfl : o2 = false := by
          cases o2
          · rfl
          · exact absurd ⟨rfl, rfl⟩ hol
        refine CW.region ?_
        refine L1 (os_loadAll (b := b2) (cs := rqCells q av tv) (by repeat (first | exact pk_head _ _ | apply pk_tail)) T.ag28 (by exact T.sz28) rfl) ?_
        refine L1 (os_call0 hl1 Try.func12 (by decide +kernel) rfl rfl) ?_
        refine L1 (ps_not rfl).os ?_
        refine L1 (ps_move rfl).os ?_
        refine LG1 ?_ (os_loadAll (b := b3) (cs := rqCells r bv' sv) (by repeat (first | exact pk_head _ _ | apply pk_tail)) T.ag28 (by exact T.sz28) rfl) ?_
        · exact rfl
        refine LG1 ?_ (os_call0 hl2 Try.func12 (by decide +kernel) rfl rfl) ?_
        · exact rfl
        refine LG1 ?_ (ps_not rfl).os ?_
        · exact rfl
        refine L1 (ps_pick_f rfl rfl).os ?_
        refine LW.nil ?_
        exact Meet.cut () trivial (by repeat (first | (with_reducible exact Ag.refl _ _) | (with_reducible apply Ag.pu0) | ((with_reducible refine Ag.pu _ ?_ ?_); · exact rfl) | ((with_reducible refine Ag.mix ?_ ?_); · exact rfl) | ((with_reducible refine Ag.pus ?_ ?_); · exact rfl))) ⟨rfl, trivial⟩ (by repeat (first | exact Ent.refl _ | (apply Ent.cons; · repeat (first | exact pk_head _ _ | apply pk_tail)) | apply Ent.skip))
    intro _ _ _
    repeat (first | refine CW.seq ?_ | refine PW.then_ ?_ | refine CW.block ?_ | refine CW.skip ?_ | refine CW.ret ?_ | refine PW.then_ret ?_ | refine PW.block_ret ?_ | refine Cut.ret ?_ | refine Rnd.ret ?_ | refine PW.block_normal ?_ | refine CW.exit ?_ | refine PW.then_exit ?_ | refine PW.block_hit ?_ | refine PW.block_miss rfl ?_ | refine Cut.exit ?_ | refine Rnd.exit ?_)
    refine CW.cond_true rfl ?_
    repeat (first | refine CW.seq ?_ | refine PW.then_ ?_ | refine CW.block ?_ | refine CW.skip ?_ | refine CW.ret ?_ | refine PW.then_ret ?_ | refine PW.block_ret ?_ | refine Cut.ret ?_ | refine Rnd.ret ?_ | refine PW.block_normal ?_ | refine CW.exit ?_ | refine PW.then_exit ?_ | refine PW.block_hit ?_ | refine PW.block_miss rfl ?_ | refine Cut.exit ?_ | refine Rnd.exit ?_)
    refine CW.region ?_
    refine L1 (ps_assign rfl).os ?_
    refine LW.nil ?_
    repeat (first | refine CW.seq ?_ | refine PW.then_ ?_ | refine CW.block ?_ | refine CW.skip ?_ | refine CW.ret ?_ | refine PW.then_ret ?_ | refine PW.block_ret ?_ | refine Cut.ret ?_ | refine Rnd.ret ?_ | refine PW.block_normal ?_ | refine CW.exit ?_ | refine PW.then_exit ?_ | refine PW.block_hit ?_ | refine PW.block_miss rfl ?_ | refine Cut.exit ?_ | refine Rnd.exit ?_)
    exact Fin.ret1 (v := .bool true) rfl [bag (blks W)] rfl ⟨rfl, rfl⟩ (by repeat (first | exact Ent.refl _ | (apply Ent.cons; · repeat (first | exact pk_head _ _ | apply pk_tail)) | apply Ent.skip))

namespace wireApart
open Go.ChangeShapes Go.WideShapes Go.ChangeAt Go.RowKit
theorem own : ownKnob Try.prog.godebug = none := by kernel_rfl
theorem laidOut : laidOutB Try.prog = true := by kernel_rfl
set_option maxRecDepth 100000 in
theorem lifted (os : Os) (started : os.Started) (H : Type) (enc : TypeId × Value → H) :
    ReturnsInHanded {} Try.checked os 3 .any (Rows.wireApartSpec.pre6 enc Try.prog Try.f3 Rows.wireApartRow.domain false) (Rows.wireApartSpec.post enc Try.prog Try.f3 false true false false) := by
  refine returnsInHanded_of_change (C := Try.checked) own started (by kernel_rfl) Try.func3
    (ChangeSpec.witness6 (enc := enc) (C := Try.checked) false ⟨#[], #[(.agg (([Value.int .i64 0]) ++ ([Value.slice none 0 0]) ++ ([Value.slice none 0 0]) ++ (([Value.int .u64 0]) ++ ([Value.int .u64 0])) ++ ([Value.int .i64 0]) ++ ([Value.int .i64 0]) ++ ([Value.int .i64 0])).toArray), (.agg (([Value.int .i64 0]) ++ ([Value.slice none 0 0]) ++ ([Value.slice none 0 0]) ++ (([Value.int .u64 0]) ++ ([Value.int .u64 0])) ++ ([Value.int .i64 0]) ++ ([Value.int .i64 0]) ++ ([Value.int .i64 0])).toArray)], []⟩ 8 (by kernel_rfl) (by kernel_rfl) (by kernel_rfl) (by kernel_rfl)) ?_
  intro W base args ds gs before hval0 hW hcnd _
  have hval : ∀ (j : Nat) t v, Try.f3.params[j]? = some t → args[j]? = some v → Value.okWide Try.prog W .any base t v := hval0
  have hW' := hW
  obtain ⟨p, q, hA0, hV, rfl, hfz, hnd⟩ := hW
  have hA : DataW.TrodAll enc Try.prog W 0 (fun _ => true) true Try.f3.params.toList args.toList ds p := hA0
  rw [Try.params3] at hA hval
  obtain ⟨v0, vs0, d0, ds0, p0, q0, hargs, rfl, rfl, h0, r0⟩ := trodAll_cons hA
  obtain ⟨v1, vs1, d1, ds1, p1, q1, rfl, rfl, rfl, h1, r1⟩ := trodAll_cons r0
  obtain ⟨rfl, rfl, rfl⟩ := trodAll_nil r1
  obtain rfl : args = #[v0, v1] := by cases args; simp_all
  obtain ⟨rfl, rfl⟩ := trodVars_none hV
  obtain ⟨cs0, rfl, hcs0⟩ := okWide_agg T.ag28 (hval 0 28 v0 rfl rfl)
  obtain ⟨fu0, hf0⟩ := h0
  obtain ⟨a0, b0, c0⟩ := open_apiRequest hf0
  obtain ⟨cs1, rfl, hcs1⟩ := okWide_agg T.ag28 (hval 1 28 v1 rfl rfl)
  obtain ⟨fu1, hf1⟩ := h1
  obtain ⟨a1, b1, c1⟩ := open_apiRequest hf1
  simp only [List.append_nil] at hW'
  refine (LawOf.calls (WireApart_law W _ a0 b0 c0 _ a1 b1 c1)).mono fun e W' ⟨he, hb⟩ => ?_
  subst he
  exact ⟨_, rfl, law_post laidOut rfl (tb := 4) (by kernel_rfl) T.un4 (by intro t ht; rw [Try.params3] at ht; simp only [List.mem_cons, List.not_mem_nil, or_false] at ht; rcases ht with rfl | rfl <;> exact ⟨by kernel_rfl, by decide +kernel⟩) rfl hW' hb⟩
theorem holds : Rows.WireApartSaid :=
  OpenClaim.holds_of_wide 3 Try.f3 rfl rfl rfl rfl rfl rfl rfl ⟨rfl, rfl, rfl, rfl, rfl⟩ rfl rfl rfl rfl rfl (by kernel_rfl) Try.func3 (by kernel_rfl)
    (of_decide_eq_true (by kernel_rfl)) (by unfold Func.isWrapper; rw [if_neg (of_decide_eq_false (by kernel_rfl))]; exact ⟨rfl, rfl⟩)
    (fun os started H enc _ => lifted os started H enc)
end wireApart
end Go.Proofs.Ytpcjjchanjdkaaa
