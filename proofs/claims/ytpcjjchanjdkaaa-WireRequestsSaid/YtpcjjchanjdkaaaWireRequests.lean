/- The law WireRequests: requests come back from their bytes: it answers true for every request (no condition). -/
import Derived.Test.YtpcjjchanjdkaaaReqQ
import Derived.Test.YtpcjjchanjdkaaaRows
namespace Go.Proofs.Ytpcjjchanjdkaaa
open Go Go.SL
set_option linter.unusedVariables false
set_option linter.unusedSimpArgs false

theorem reqB_len_pos (q : RQ) : 1 ≤ (reqB q).length := by unfold reqB; simp
theorem WireRequests_law (W : World) (cs0 : List Value) (s0 : RQ × Value × Value) (e0 : cs0 = rqCells s0.1 s0.2.1 s0.2.2) (hi0 : ∃ ga gt, ReqIn (bag (blks W)) s0.1 s0.2.1 s0.2.2 ga gt) :
    LawOf Try.prog 9 [.agg cs0.toArray] W := by
  subst e0
  obtain ⟨q, av, tv⟩ := s0
  obtain ⟨ga, gt, hi⟩ := hi0
  dsimp only at hi ⊢
  have hone1 := rqCells_one (q := q) hi.ra hi.rt
  obtain ⟨o1, hl1⟩ := light_of (q := q) hi.ra hi.rt
  have ht1 := Tame_spec (bag (blks W)) q av tv ga gt hi.ea hi.et hi.ra hi.rt hi.ka hi.kt
  have k1 := tame_ok q hi.id hi.accs hi.trs
  refine FSpec.intro Try.func9 rfl 56 Try.ntmps9 (Nat.le_of_ble_eq_true rfl) fun w0 F => ?_
  show CW _ _ _ _ _ _ (_ :: F)
  repeat (first | refine CW.seq ?_ | refine PW.then_ ?_ | refine CW.block ?_ | refine CW.skip ?_ | refine CW.ret ?_ | refine PW.then_ret ?_ | refine PW.block_ret ?_ | refine Cut.ret ?_ | refine Rnd.ret ?_ | refine PW.block_normal ?_ | refine CW.exit ?_ | refine PW.then_exit ?_ | refine PW.block_hit ?_ | refine PW.block_miss rfl ?_ | refine Cut.exit ?_ | refine Rnd.exit ?_)
  refine CW.region ?_
  refine LE (os_box rfl (by rfl)) ?_
  rintro _ _ ⟨b1, rfl, rfl⟩
  refine L1 (ps_assign rfl).os ?_
  refine LW.nil ?_
  repeat (first | refine CW.seq ?_ | refine PW.then_ ?_ | refine CW.block ?_ | refine CW.skip ?_ | refine CW.ret ?_ | refine PW.then_ret ?_ | refine PW.block_ret ?_ | refine Cut.ret ?_ | refine Rnd.ret ?_ | refine PW.block_normal ?_ | refine CW.exit ?_ | refine PW.then_exit ?_ | refine PW.block_hit ?_ | refine PW.block_miss rfl ?_ | refine Cut.exit ?_ | refine Rnd.exit ?_)
  refine CW.region ?_
  refine L1 (os_call0 fit_spec Try.func11 (by decide +kernel) rfl rfl) ?_
  refine L1 (ps_not rfl).os ?_
  refine LW.nil ?_
  repeat (first | refine CW.seq ?_ | refine PW.then_ ?_ | refine CW.block ?_ | refine CW.skip ?_ | refine CW.ret ?_ | refine PW.then_ret ?_ | refine PW.block_ret ?_ | refine Cut.ret ?_ | refine Rnd.ret ?_ | refine PW.block_normal ?_ | refine CW.exit ?_ | refine PW.then_exit ?_ | refine PW.block_hit ?_ | refine PW.block_miss rfl ?_ | refine Cut.exit ?_ | refine Rnd.exit ?_)
  refine CW.cond_false rfl ?_
  repeat (first | refine CW.seq ?_ | refine PW.then_ ?_ | refine CW.block ?_ | refine CW.skip ?_ | refine CW.ret ?_ | refine PW.then_ret ?_ | refine PW.block_ret ?_ | refine Cut.ret ?_ | refine Rnd.ret ?_ | refine PW.block_normal ?_ | refine CW.exit ?_ | refine PW.then_exit ?_ | refine PW.block_hit ?_ | refine PW.block_miss rfl ?_ | refine Cut.exit ?_ | refine Rnd.exit ?_)
  cases o1
  · refine CW.region ?_
    refine L1 (os_loadAll (b := b1) (cs := rqCells q av tv) (by repeat (first | exact pk_head _ _ | apply pk_tail)) T.ag28 (by exact T.sz28) rfl) ?_
    refine L1 (os_call0 hl1 Try.func12 (by decide +kernel) rfl rfl) ?_
    refine L1 (ps_not rfl).os ?_
    refine LW.nil ?_
    repeat (first | refine CW.seq ?_ | refine PW.then_ ?_ | refine CW.block ?_ | refine CW.skip ?_ | refine CW.ret ?_ | refine PW.then_ret ?_ | refine PW.block_ret ?_ | refine Cut.ret ?_ | refine Rnd.ret ?_ | refine PW.block_normal ?_ | refine CW.exit ?_ | refine PW.then_exit ?_ | refine PW.block_hit ?_ | refine PW.block_miss rfl ?_ | refine Cut.exit ?_ | refine Rnd.exit ?_)
    refine CW.cond_true rfl ?_
    repeat (first | refine CW.seq ?_ | refine PW.then_ ?_ | refine CW.block ?_ | refine CW.skip ?_ | refine CW.ret ?_ | refine PW.then_ret ?_ | refine PW.block_ret ?_ | refine Cut.ret ?_ | refine Rnd.ret ?_ | refine PW.block_normal ?_ | refine CW.exit ?_ | refine PW.then_exit ?_ | refine PW.block_hit ?_ | refine PW.block_miss rfl ?_ | refine Cut.exit ?_ | refine Rnd.exit ?_)
    refine CW.region ?_
    refine L1 (ps_assign rfl).os ?_
    refine LW.nil ?_
    repeat (first | refine CW.seq ?_ | refine PW.then_ ?_ | refine CW.block ?_ | refine CW.skip ?_ | refine CW.ret ?_ | refine PW.then_ret ?_ | refine PW.block_ret ?_ | refine Cut.ret ?_ | refine Rnd.ret ?_ | refine PW.block_normal ?_ | refine CW.exit ?_ | refine PW.then_exit ?_ | refine PW.block_hit ?_ | refine PW.block_miss rfl ?_ | refine Cut.exit ?_ | refine Rnd.exit ?_)
    exact Fin.ret1 (v := .bool true) rfl [bag (blks W)] rfl ⟨rfl, rfl⟩ (by repeat (first | exact Ent.refl _ | (apply Ent.cons; · repeat (first | exact pk_head _ _ | apply pk_tail)) | apply Ent.skip))
  refine CW.region ?_
  refine L1 (os_loadAll (b := b1) (cs := rqCells q av tv) (by repeat (first | exact pk_head _ _ | apply pk_tail)) T.ag28 (by exact T.sz28) rfl) ?_
  refine L1 (os_call0 hl1 Try.func12 (by decide +kernel) rfl rfl) ?_
  refine L1 (ps_not rfl).os ?_
  refine LW.nil ?_
  repeat (first | refine CW.seq ?_ | refine PW.then_ ?_ | refine CW.block ?_ | refine CW.skip ?_ | refine CW.ret ?_ | refine PW.then_ret ?_ | refine PW.block_ret ?_ | refine Cut.ret ?_ | refine Rnd.ret ?_ | refine PW.block_normal ?_ | refine CW.exit ?_ | refine PW.then_exit ?_ | refine PW.block_hit ?_ | refine PW.block_miss rfl ?_ | refine Cut.exit ?_ | refine Rnd.exit ?_)
  refine CW.cond_false rfl ?_
  repeat (first | refine CW.seq ?_ | refine PW.then_ ?_ | refine CW.block ?_ | refine CW.skip ?_ | refine CW.ret ?_ | refine PW.then_ret ?_ | refine PW.block_ret ?_ | refine Cut.ret ?_ | refine Rnd.ret ?_ | refine PW.block_normal ?_ | refine CW.exit ?_ | refine PW.then_exit ?_ | refine PW.block_hit ?_ | refine PW.block_miss rfl ?_ | refine Cut.exit ?_ | refine Rnd.exit ?_)
  refine CW.region ?_
  refine L1 (os_loadAll (b := b1) (cs := rqCells q av tv) (by repeat (first | exact pk_head _ _ | apply pk_tail)) T.ag28 (by exact T.sz28) rfl) ?_
  refine LE (os_call ht1 Try.func13 (by decide +kernel) rfl rfl (by repeat (first | exact pk_head _ _ | apply pk_tail))) ?_
  rintro _ _ ⟨_, ⟨av1, tv1, B1, rfl, rfl, r1, r2⟩, rfl⟩
  refine L1 (os_storeAll (b := b1) (vs := rqCells (tameQ q) av1 tv1) (by repeat (first | exact pk_head _ _ | apply pk_tail)) (by exact T.sz28) rfl rfl (rqCells_one r1 r2) (by rfl)) ?_
  refine LW.nil ?_
  obtain ⟨Q, hQ⟩ : ∃ Q, tameQ q = Q := ⟨_, rfl⟩
  rw [hQ] at r1 r2 k1 ⊢
  have hB1 := Request_spec B1 Q av1 tv1 k1.rq r1 r2
  have hrq := readReq_B Q k1
  have hmo := readReq_more Q k1 0
  obtain ⟨e3, hle0, hne⟩ := readReq_less k1
  obtain ⟨q3, hle⟩ : ∃ q3, readReq ((reqB Q).take ((reqB Q).length - 1)) = (q3, e3) := ⟨_, Prod.ext rfl hle0⟩
  have hpos := reqB_len_pos Q
  have hle2 := reqB_le Q k1.rq.la k1.rq.lt
  generalize reqB Q = x at *
  obtain ⟨m, hm⟩ : ∃ m, x.length = m := ⟨_, rfl⟩
  rw [hm] at hB1 hle hpos hle2
  repeat (first | refine CW.seq ?_ | refine PW.then_ ?_ | refine CW.block ?_ | refine CW.skip ?_ | refine CW.ret ?_ | refine PW.then_ret ?_ | refine PW.block_ret ?_ | refine Cut.ret ?_ | refine Rnd.ret ?_ | refine PW.block_normal ?_ | refine CW.exit ?_ | refine PW.then_exit ?_ | refine PW.block_hit ?_ | refine PW.block_miss rfl ?_ | refine Cut.exit ?_ | refine Rnd.exit ?_)
  refine CW.region ?_
  refine L1 (os_loadAll (b := b1) (cs := rqCells Q av1 tv1) (by repeat (first | exact pk_head _ _ | apply pk_tail)) T.ag28 (by exact T.sz28) rfl) ?_
  refine LE (os_call hB1 Try.func14 (by decide +kernel) rfl rfl (by repeat (first | exact pk_head _ _ | apply pk_tail))) ?_
  rintro _ _ ⟨_, ⟨u1, d1, rfl, rfl⟩, rfl⟩
  refine slOwn_info (pk_head _ _) fun m1 m2 m3 => ?_
  obtain ⟨vb, rfl⟩ := m3 (by omega)
  refine L1 (ps_assign rfl).os ?_
  refine LW.nil ?_
  have hby := ByR.own (e := 5) (m := m) (d := d1) (q := some ⟨vb, 0, none⟩) hm m1 (fun _ => ⟨vb, rfl⟩)
  have hxm : x.length ≤ maxLen := by unfold maxLen; omega
  repeat (first | refine CW.seq ?_ | refine PW.then_ ?_ | refine CW.block ?_ | refine CW.skip ?_ | refine CW.ret ?_ | refine PW.then_ret ?_ | refine PW.block_ret ?_ | refine Cut.ret ?_ | refine Rnd.ret ?_ | refine PW.block_normal ?_ | refine CW.exit ?_ | refine PW.then_exit ?_ | refine PW.block_hit ?_ | refine PW.block_miss rfl ?_ | refine Cut.exit ?_ | refine Rnd.exit ?_)
  refine CW.region ?_
  refine L1 (ps_move rfl).os ?_
  refine LE (os_call (ReadRequest_to hby hxm hrq) Try.func16 (by decide +kernel) rfl rfl (by repeat (first | exact pk_head _ _ | apply pk_tail))) ?_
  rintro _ _ ⟨_, ⟨a2, t2, B2, rfl, rfl, r3, r4⟩, rfl⟩
  refine L1 (ps_move rfl).os ?_
  refine L1 (ps_extract rfl rfl).os ?_
  refine L1 (ps_extract rfl rfl).os ?_
  refine LE (os_alloc T.ti28) ?_
  rintro _ _ ⟨b4, rfl, rfl⟩
  refine L1 (os_storeAll (b := b4) (vs := rqCells Q a2 t2) (by repeat (first | exact pk_head _ _ | apply pk_tail)) (by exact T.sz28) rfl rfl (rqCells_one r3 r4) (by rfl)) ?_
  refine L1 (ps_assign rfl).os ?_
  refine LW.nil ?_
  repeat (first | refine CW.seq ?_ | refine PW.then_ ?_ | refine CW.block ?_ | refine CW.skip ?_ | refine CW.ret ?_ | refine PW.then_ret ?_ | refine PW.block_ret ?_ | refine Cut.ret ?_ | refine Rnd.ret ?_ | refine PW.block_normal ?_ | refine CW.exit ?_ | refine PW.then_exit ?_ | refine PW.block_hit ?_ | refine PW.block_miss rfl ?_ | refine Cut.exit ?_ | refine Rnd.exit ?_)
  refine CW.region ?_
  refine L1 (ps_move rfl).os ?_
  refine LE (os_append0 (news := bv x) T.un32 T.ti5 (by rfl) (by decide) rfl rfl (by simp [hm]) (hby.src (by repeat (first | exact pk_head _ _ | apply pk_tail))) (bv_one _) (by unfold maxLen; omega) (by omega)) ?_
  rintro _ _ ⟨q', d', rfl, rfl, hq'⟩
  refine LE (os_bslv (vs := bv [0]) T.un32 T.ti5 (by rfl) (by rfl) rfl (bv_one _) (by decide) (by decide)) ?_
  rintro _ _ ⟨b27, rfl, rfl⟩
  refine LE (os_append (xs := bv x) (news := bv [0]) (by repeat (first | exact pk_head _ _ | apply pk_tail)) T.un32 T.ti5 (by rfl) (by decide) rfl rfl rfl (Src.cb (b := b27) (by repeat (first | exact pk_head _ _ | apply pk_tail)) rfl) (bv_one _) (by unfold maxLen; omega) (by omega)) ?_
  rintro _ _ ⟨q2, d2, rfl, rfl, hq2⟩
  refine slOwn_info (pk_head _ _) fun n1 n2 n3 => ?_
  rw [← bv_append]
  refine LE (os_call (ReadRequest_to (A := slOwn 5 1 (.slice q2 (m + 1) d2) (m + 1) (bv (x ++ [0]))) (ByR.own (by simp [hm]) n1 n3) (by simp; unfold maxLen; omega) hmo) Try.func16 (by decide +kernel) rfl rfl (by repeat (first | exact pk_head _ _ | apply pk_tail))) ?_
  rintro _ _ ⟨_, ⟨a3, t3, B3, rfl, rfl, r5, r6⟩, rfl⟩
  refine L1 (ps_move rfl).os ?_
  refine L1 (ps_extract rfl rfl).os ?_
  refine L1 (ps_extract rfl rfl).os ?_
  refine LE (os_alloc T.ti28) ?_
  rintro _ _ ⟨b6, rfl, rfl⟩
  refine L1 (os_storeAll (b := b6) (vs := rqCells RQ.zero a3 t3) (by repeat (first | exact pk_head _ _ | apply pk_tail)) (by exact T.sz28) rfl rfl (rqCells_one r5 r6) (by rfl)) ?_
  refine L1 (ps_assign rfl).os ?_
  refine LW.nil ?_
  repeat (first | refine CW.seq ?_ | refine PW.then_ ?_ | refine CW.block ?_ | refine CW.skip ?_ | refine CW.ret ?_ | refine PW.then_ret ?_ | refine PW.block_ret ?_ | refine Cut.ret ?_ | refine Rnd.ret ?_ | refine PW.block_normal ?_ | refine CW.exit ?_ | refine PW.then_exit ?_ | refine PW.block_hit ?_ | refine PW.block_miss rfl ?_ | refine Cut.exit ?_ | refine Rnd.exit ?_)
  have hby2 := hby.take (m - 1) (by omega)
  have hS := Same_spec B2 B1 Q Q a2 t2 av1 tv1 r3 r4 r1 r2
  rw [sameB_t rfl] at hS
  refine CW.region ?_
  refine L1 (ps_move rfl).os ?_
  refine L1 (ps_move rfl).os ?_
  refine L1 (ps_len_sl T.un32 rfl).os ?_
  refine L1 (ps_to (u := .int .i64 ((m - 1 : Nat) : Int)) (congrArg (Value.int .i64) (by omega)) (ps_sub_i64 rfl rfl (by omega) (by omega))).os ?_
  refine L1 (ps_to (u := .slice (some ⟨vb, 0, none⟩) (m - 1) d1) (by simp) (ps_sl_h T.un32 T.sz5 rfl rfl (by omega) (by omega))).os ?_
  refine LE (os_call (ReadRequest_to hby2 (by simp; unfold maxLen; omega) hle) Try.func16 (by decide +kernel) rfl rfl (by repeat (first | exact pk_head _ _ | apply pk_tail))) ?_
  rintro _ _ ⟨_, ⟨a4, t4, B4, rfl, rfl, r7, r8⟩, rfl⟩
  refine L1 (ps_move rfl).os ?_
  refine L1 (ps_extract rfl rfl).os ?_
  refine L1 (ps_extract rfl rfl).os ?_
  refine LE (os_alloc T.ti28) ?_
  rintro _ _ ⟨b8, rfl, rfl⟩
  refine L1 (os_storeAll (b := b8) (vs := rqCells q3 a4 t4) (by repeat (first | exact pk_head _ _ | apply pk_tail)) (by exact T.sz28) rfl rfl (rqCells_one r7 r8) (by rfl)) ?_
  refine L1 (ps_assign rfl).os ?_
  refine LW.nil ?_
  repeat (first | refine CW.seq ?_ | refine PW.then_ ?_ | refine CW.block ?_ | refine CW.skip ?_ | refine CW.ret ?_ | refine PW.then_ret ?_ | refine PW.block_ret ?_ | refine Cut.ret ?_ | refine Rnd.ret ?_ | refine PW.block_normal ?_ | refine CW.exit ?_ | refine PW.then_exit ?_ | refine PW.block_hit ?_ | refine PW.block_miss rfl ?_ | refine Cut.exit ?_ | refine Rnd.exit ?_)
  refine CW.region ?_
  refine L1 (ps_move rfl).os ?_
  refine L1 (ps_t (ps_eql rfl rfl) (rfl)).os ?_
  refine L1 (ps_move rfl).os ?_
  refine LG1 ?_ (os_loadAll (b := b4) (cs := rqCells Q a2 t2) (by repeat (first | exact pk_head _ _ | apply pk_tail)) T.ag28 (by exact T.sz28) rfl) ?_
  · exact rfl
  refine LG1 ?_ (os_loadAll (b := b1) (cs := rqCells Q av1 tv1) (by repeat (first | exact pk_head _ _ | apply pk_tail)) T.ag28 (by exact T.sz28) rfl) ?_
  · exact rfl
  refine LG1 ?_ (os_call2 hS Try.func15 (by decide +kernel) rfl rfl (by repeat (first | exact pk_head _ _ | apply pk_tail)) (by repeat (first | exact pk_head _ _ | apply pk_tail))) ?_
  · exact rfl
  refine L1 (ps_pick_t rfl rfl).os ?_
  refine L1 (ps_move rfl).os ?_
  refine LG1 ?_ (ps_move rfl).os ?_
  · exact rfl
  refine LG1 ?_ (ps_t (ps_neq rfl rfl) (by decide)).os ?_
  · exact rfl
  refine L1 (ps_pick_t rfl rfl).os ?_
  refine L1 (ps_move rfl).os ?_
  refine LG1 ?_ (ps_move rfl).os ?_
  · exact rfl
  refine LG1 ?_ (ps_t (ps_neq rfl rfl) (by omega)).os ?_
  · exact rfl
  refine L1 (ps_pick_t rfl rfl).os ?_
  refine L1 (ps_assign rfl).os ?_
  refine LW.nil ?_
  repeat (first | refine CW.seq ?_ | refine PW.then_ ?_ | refine CW.block ?_ | refine CW.skip ?_ | refine CW.ret ?_ | refine PW.then_ret ?_ | refine PW.block_ret ?_ | refine Cut.ret ?_ | refine Rnd.ret ?_ | refine PW.block_normal ?_ | refine CW.exit ?_ | refine PW.then_exit ?_ | refine PW.block_hit ?_ | refine PW.block_miss rfl ?_ | refine Cut.exit ?_ | refine Rnd.exit ?_)
  exact Fin.ret1 (v := .bool true) rfl [bag (blks W)] rfl ⟨rfl, rfl⟩ (by repeat (first | exact Ent.refl _ | (apply Ent.cons; · repeat (first | exact pk_head _ _ | apply pk_tail)) | apply Ent.skip))

namespace wireRequests
open Go.ChangeShapes Go.WideShapes Go.ChangeAt Go.RowKit
theorem own : ownKnob Try.prog.godebug = none := by kernel_rfl
theorem laidOut : laidOutB Try.prog = true := by kernel_rfl
set_option maxRecDepth 100000 in
theorem lifted (os : Os) (started : os.Started) (H : Type) (enc : TypeId × Value → H) :
    ReturnsInHanded {} Try.checked os 9 .any (Rows.wireRequestsSpec.pre6 enc Try.prog Try.f9 Rows.wireRequestsRow.domain false) (Rows.wireRequestsSpec.post enc Try.prog Try.f9 false true false false) := by
  refine returnsInHanded_of_change (C := Try.checked) own started (by kernel_rfl) Try.func9
    (ChangeSpec.witness6 (enc := enc) (C := Try.checked) false ⟨#[], #[(.agg (([Value.int .i64 0]) ++ ([Value.slice none 0 0]) ++ ([Value.slice none 0 0]) ++ (([Value.int .u64 0]) ++ ([Value.int .u64 0])) ++ ([Value.int .i64 0]) ++ ([Value.int .i64 0]) ++ ([Value.int .i64 0])).toArray)], []⟩ 8 (by kernel_rfl) (by kernel_rfl) (by kernel_rfl) (by kernel_rfl)) ?_
  intro W base args ds gs before hval0 hW hcnd _
  have hval : ∀ (j : Nat) t v, Try.f9.params[j]? = some t → args[j]? = some v → Value.okWide Try.prog W .any base t v := hval0
  have hW' := hW
  obtain ⟨p, q, hA0, hV, rfl, hfz, hnd⟩ := hW
  have hA : DataW.TrodAll enc Try.prog W 0 (fun _ => true) true Try.f9.params.toList args.toList ds p := hA0
  rw [Try.params9] at hA hval
  obtain ⟨v0, vs0, d0, ds0, p0, q0, hargs, rfl, rfl, h0, r0⟩ := trodAll_cons hA
  obtain ⟨rfl, rfl, rfl⟩ := trodAll_nil r0
  obtain rfl : args = #[v0] := by cases args; simp_all
  obtain ⟨rfl, rfl⟩ := trodVars_none hV
  obtain ⟨cs0, rfl, hcs0⟩ := okWide_agg T.ag28 (hval 0 28 v0 rfl rfl)
  obtain ⟨fu0, hf0⟩ := h0
  obtain ⟨a0, b0, c0⟩ := open_apiRequest hf0
  simp only [List.append_nil] at hW'
  refine (LawOf.calls (WireRequests_law W _ a0 b0 c0)).mono fun e W' ⟨he, hb⟩ => ?_
  subst he
  exact ⟨_, rfl, law_post laidOut rfl (tb := 4) (by kernel_rfl) T.un4 (by intro t ht; rw [Try.params9] at ht; simp only [List.mem_cons, List.not_mem_nil, or_false] at ht; rcases ht with rfl <;> exact ⟨by kernel_rfl, by decide +kernel⟩) rfl hW' hb⟩
theorem holds : Rows.WireRequestsSaid :=
  OpenClaim.holds_of_wide 9 Try.f9 rfl rfl rfl rfl rfl rfl rfl ⟨rfl, rfl, rfl, rfl, rfl⟩ rfl rfl rfl rfl rfl (by kernel_rfl) Try.func9 (by kernel_rfl)
    (of_decide_eq_true (by kernel_rfl)) (by unfold Func.isWrapper; rw [if_neg (of_decide_eq_false (by kernel_rfl))]; exact ⟨rfl, rfl⟩)
    (fun os started H enc _ => lifted os started H enc)
end wireRequests
end Go.Proofs.Ytpcjjchanjdkaaa
