/- The law WireSizes: a request has as many bytes as its parts: it answers true for every request (no condition). -/
import Derived.Test.YtpcjjchanjdkaaaReqQ
import Derived.Test.YtpcjjchanjdkaaaMp
import Derived.Test.YtpcjjchanjdkaaaRows
namespace Go.Proofs.Ytpcjjchanjdkaaa
open Go Go.SL
set_option linter.unusedVariables false
set_option linter.unusedSimpArgs false

def wantL (na nt : Nat) : List (Int × Value) := [(1, .int .i64 (2 + 22 * (na : Int))), (2, .int .i64 (2 + 90 * (nt : Int))), (3, .int .i64 5), (4, .int .i64 17), (5, .int .i64 17), (6, .int .i64 30), (7, .int .i64 17), (8, .int .i64 30), (9, .int .i64 9)]
theorem want_find (q : RQ) (h : TameOk q) : ((wantL q.accs.length q.trs.length).find? (fun p => q.kind == p.1)).map (·.2) = some (.int .i64 ((reqB q).length : Int)) := by
  have hk : q.kind = 1 ∨ q.kind = 2 ∨ q.kind = 3 ∨ q.kind = 4 ∨ q.kind = 5 ∨ q.kind = 6 ∨ q.kind = 7 ∨ q.kind = 8 ∨ q.kind = 9 := by have := h.kind; omega
  rcases hk with k | k | k | k | k | k | k | k | k <;> simp [wantL, reqB, bodyB, k, flat_len' accB 22 accB_len, flat_len' trB 90 trB_len, numB] <;> omega
theorem reqB_fst (q : RQ) (h : TameOk q) (hp : 0 < (reqB q).length) : (((reqB q)[0]).toNat : Int) = q.kind := by
  have hk : q.kind = 1 ∨ q.kind = 2 ∨ q.kind = 3 ∨ q.kind = 4 ∨ q.kind = 5 ∨ q.kind = 6 ∨ q.kind = 7 ∨ q.kind = 8 ∨ q.kind = 9 := by have := h.kind; omega
  have h0 : (reqB q)[0]? = (be 1 q.kind)[0]? := by
    unfold reqB
    rw [List.getElem?_append_left (by simp)]
  have h1 : (reqB q)[0]? = some (reqB q)[0] := List.getElem?_eq_getElem hp
  rw [h1] at h0
  rcases hk with k | k | k | k | k | k | k | k | k <;> rw [k] at h0 ⊢ <;> rw [Option.some.inj (h0.trans rfl)] <;> rfl
theorem WireSizes_law (W : World) (cs0 : List Value) (s0 : RQ × Value × Value) (e0 : cs0 = rqCells s0.1 s0.2.1 s0.2.2) (hi0 : ∃ ga gt, ReqIn (bag (blks W)) s0.1 s0.2.1 s0.2.2 ga gt) :
    LawOf Try.prog 4 [.agg cs0.toArray] W := by
  subst e0
  obtain ⟨q, av, tv⟩ := s0
  obtain ⟨ga, gt, hi⟩ := hi0
  dsimp only at hi ⊢
  have hone1 := rqCells_one (q := q) hi.ra hi.rt
  obtain ⟨o1, hl1⟩ := light_of (q := q) hi.ra hi.rt
  have ht1 := Tame_spec (bag (blks W)) q av tv ga gt hi.ea hi.et hi.ra hi.rt hi.ka hi.kt
  have k1 := tame_ok q hi.id hi.accs hi.trs
  refine FSpec.intro Try.func4 rfl 42 Try.ntmps4 (Nat.le_of_ble_eq_true rfl) fun w0 F => ?_
  show CW _ _ _ _ _ _ (_ :: F)
  repeat (first | refine CW.seq ?_ | refine PW.then_ ?_ | refine CW.block ?_ | refine CW.skip ?_ | refine CW.ret ?_ | refine PW.then_ret ?_ | refine PW.block_ret ?_ | refine Cut.ret ?_ | refine Rnd.ret ?_ | refine PW.block_normal ?_ | refine CW.exit ?_ | refine PW.then_exit ?_ | refine PW.block_hit ?_ | refine PW.block_miss rfl ?_ | refine Cut.exit ?_ | refine Rnd.exit ?_)
  refine CW.region ?_
  refine LE (os_box rfl (by rfl)) ?_
  rintro _ _ ⟨b1, rfl, rfl⟩
  refine L1 (ps_assign rfl).os ?_
  refine LW.nil ?_
  repeat (first | refine CW.seq ?_ | refine PW.then_ ?_ | refine CW.block ?_ | refine CW.skip ?_ | refine CW.ret ?_ | refine PW.then_ret ?_ | refine PW.block_ret ?_ | refine Cut.ret ?_ | refine Rnd.ret ?_ | refine PW.block_normal ?_ | refine CW.exit ?_ | refine PW.then_exit ?_ | refine PW.block_hit ?_ | refine PW.block_miss rfl ?_ | refine Cut.exit ?_ | refine Rnd.exit ?_)
  refine CW.region ?_
  refine L1 (os_call0 fit_spec Try.func11 (by decide +kernel) rfl rfl) ?_
  refine L1 (ps_not rfl).os ?_
  refine LW.nil ?_
  repeat (first | refine CW.seq ?_ | refine PW.then_ ?_ | refine CW.block ?_ | refine CW.skip ?_ | refine CW.ret ?_ | refine PW.then_ret ?_ | refine PW.block_ret ?_ | refine Cut.ret ?_ | refine Rnd.ret ?_ | refine PW.block_normal ?_ | refine CW.exit ?_ | refine PW.then_exit ?_ | refine PW.block_hit ?_ | refine PW.block_miss rfl ?_ | refine Cut.exit ?_ | refine Rnd.exit ?_)
  refine CW.cond_false rfl ?_
  repeat (first | refine CW.seq ?_ | refine PW.then_ ?_ | refine CW.block ?_ | refine CW.skip ?_ | refine CW.ret ?_ | refine PW.then_ret ?_ | refine PW.block_ret ?_ | refine Cut.ret ?_ | refine Rnd.ret ?_ | refine PW.block_normal ?_ | refine CW.exit ?_ | refine PW.then_exit ?_ | refine PW.block_hit ?_ | refine PW.block_miss rfl ?_ | refine Cut.exit ?_ | refine Rnd.exit ?_)
  cases o1
  · refine CW.region ?_
    refine L1 (os_loadAll (b := b1) (cs := rqCells q av tv) (by repeat (first | exact pk_head _ _ | apply pk_tail)) T.ag28 (by exact T.sz28) rfl) ?_
    refine L1 (os_call0 hl1 Try.func12 (by decide +kernel) rfl rfl) ?_
    refine L1 (ps_not rfl).os ?_
    refine LW.nil ?_
    repeat (first | refine CW.seq ?_ | refine PW.then_ ?_ | refine CW.block ?_ | refine CW.skip ?_ | refine CW.ret ?_ | refine PW.then_ret ?_ | refine PW.block_ret ?_ | refine Cut.ret ?_ | refine Rnd.ret ?_ | refine PW.block_normal ?_ | refine CW.exit ?_ | refine PW.then_exit ?_ | refine PW.block_hit ?_ | refine PW.block_miss rfl ?_ | refine Cut.exit ?_ | refine Rnd.exit ?_)
    refine CW.cond_true rfl ?_
    repeat (first | refine CW.seq ?_ | refine PW.then_ ?_ | refine CW.block ?_ | refine CW.skip ?_ | refine CW.ret ?_ | refine PW.then_ret ?_ | refine PW.block_ret ?_ | refine Cut.ret ?_ | refine Rnd.ret ?_ | refine PW.block_normal ?_ | refine CW.exit ?_ | refine PW.then_exit ?_ | refine PW.block_hit ?_ | refine PW.block_miss rfl ?_ | refine Cut.exit ?_ | refine Rnd.exit ?_)
    refine CW.region ?_
    refine L1 (ps_assign rfl).os ?_
    refine LW.nil ?_
    repeat (first | refine CW.seq ?_ | refine PW.then_ ?_ | refine CW.block ?_ | refine CW.skip ?_ | refine CW.ret ?_ | refine PW.then_ret ?_ | refine PW.block_ret ?_ | refine Cut.ret ?_ | refine Rnd.ret ?_ | refine PW.block_normal ?_ | refine CW.exit ?_ | refine PW.then_exit ?_ | refine PW.block_hit ?_ | refine PW.block_miss rfl ?_ | refine Cut.exit ?_ | refine Rnd.exit ?_)
    exact Fin.ret1 (v := .bool true) rfl [bag (blks W)] rfl ⟨rfl, rfl⟩ (by repeat (first | exact Ent.refl _ | (apply Ent.cons; · repeat (first | exact pk_head _ _ | apply pk_tail)) | apply Ent.skip))
  refine CW.region ?_
  refine L1 (os_loadAll (b := b1) (cs := rqCells q av tv) (by repeat (first | exact pk_head _ _ | apply pk_tail)) T.ag28 (by exact T.sz28) rfl) ?_
  refine L1 (os_call0 hl1 Try.func12 (by decide +kernel) rfl rfl) ?_
  refine L1 (ps_not rfl).os ?_
  refine LW.nil ?_
  repeat (first | refine CW.seq ?_ | refine PW.then_ ?_ | refine CW.block ?_ | refine CW.skip ?_ | refine CW.ret ?_ | refine PW.then_ret ?_ | refine PW.block_ret ?_ | refine Cut.ret ?_ | refine Rnd.ret ?_ | refine PW.block_normal ?_ | refine CW.exit ?_ | refine PW.then_exit ?_ | refine PW.block_hit ?_ | refine PW.block_miss rfl ?_ | refine Cut.exit ?_ | refine Rnd.exit ?_)
  refine CW.cond_false rfl ?_
  repeat (first | refine CW.seq ?_ | refine PW.then_ ?_ | refine CW.block ?_ | refine CW.skip ?_ | refine CW.ret ?_ | refine PW.then_ret ?_ | refine PW.block_ret ?_ | refine Cut.ret ?_ | refine Rnd.ret ?_ | refine PW.block_normal ?_ | refine CW.exit ?_ | refine PW.then_exit ?_ | refine PW.block_hit ?_ | refine PW.block_miss rfl ?_ | refine Cut.exit ?_ | refine Rnd.exit ?_)
  refine CW.region ?_
  refine L1 (os_loadAll (b := b1) (cs := rqCells q av tv) (by repeat (first | exact pk_head _ _ | apply pk_tail)) T.ag28 (by exact T.sz28) rfl) ?_
  refine LE (os_call ht1 Try.func13 (by decide +kernel) rfl rfl (by repeat (first | exact pk_head _ _ | apply pk_tail))) ?_
  rintro _ _ ⟨_, ⟨av1, tv1, B1, rfl, rfl, r1, r2⟩, rfl⟩
  refine L1 (os_storeAll (b := b1) (vs := rqCells (tameQ q) av1 tv1) (by repeat (first | exact pk_head _ _ | apply pk_tail)) (by exact T.sz28) rfl rfl (rqCells_one r1 r2) (by rfl)) ?_
  refine LW.nil ?_
  obtain ⟨Q, hQ⟩ : ∃ Q, tameQ q = Q := ⟨_, rfl⟩
  rw [hQ] at r1 r2 k1 ⊢
  have hB1 := Request_spec B1 Q av1 tv1 k1.rq r1 r2
  have hwf := want_find Q k1
  have hpos : 0 < (reqB Q).length := by unfold reqB; simp; omega
  have hfst := reqB_fst Q k1 hpos
  have hkk := k1.kind
  have hla := k1.la
  have hlt := k1.lt
  obtain ⟨pa, ca, rfl, -, -, -⟩ := r1.len
  obtain ⟨pt0, ct, rfl, -, -, -⟩ := r2.len
  have ea : (Q.accs.map accCells).length = Q.accs.length := List.length_map _
  have et : (Q.trs.map trCells).length = Q.trs.length := List.length_map _
  rw [ea, et] at hB1
  rw [ea, et]
  generalize Q.accs.length = na at *
  generalize Q.trs.length = nt at *
  repeat (first | refine CW.seq ?_ | refine PW.then_ ?_ | refine CW.block ?_ | refine CW.skip ?_ | refine CW.ret ?_ | refine PW.then_ret ?_ | refine PW.block_ret ?_ | refine Cut.ret ?_ | refine Rnd.ret ?_ | refine PW.block_normal ?_ | refine CW.exit ?_ | refine PW.then_exit ?_ | refine PW.block_hit ?_ | refine PW.block_miss rfl ?_ | refine Cut.exit ?_ | refine Rnd.exit ?_)
  refine CW.region ?_
  refine LE (os_makeMap .i64) ?_
  rintro _ _ ⟨b12, rfl, rfl⟩
  refine L1 (ps_fa T.fa28_1 (by decide) rfl).os ?_
  refine L1 (os_load1 (by repeat (first | exact pk_head _ _ | apply pk_tail)) T.ag22 rfl (by rfl)) ?_
  refine L1 (ps_len_sl T.un22 rfl).os ?_
  refine L1 (ps_mul_i64 rfl rfl (by omega) (by omega)).os ?_
  refine L1 (ps_add_i64 rfl rfl (by omega) (by omega)).os ?_
  refine L1 (os_insert (b := b12) (by repeat (first | exact pk_head _ _ | apply pk_tail)) T.un35 T.un3 rfl rfl rfl (by rfl)) ?_
  refine L1 (ps_fa T.fa28_2 (by decide) rfl).os ?_
  refine L1 (os_load1 (by repeat (first | exact pk_head _ _ | apply pk_tail)) T.ag23 rfl (by rfl)) ?_
  refine L1 (ps_len_sl T.un23 rfl).os ?_
  refine L1 (ps_mul_i64 rfl rfl (by omega) (by omega)).os ?_
  refine L1 (ps_add_i64 rfl rfl (by omega) (by omega)).os ?_
  refine L1 (os_insert (b := b12) (by repeat (first | exact pk_head _ _ | apply pk_tail)) T.un35 T.un3 rfl rfl rfl (by rfl)) ?_
  refine L1 (os_insert (b := b12) (by repeat (first | exact pk_head _ _ | apply pk_tail)) T.un35 T.un3 rfl rfl rfl (by rfl)) ?_
  refine L1 (os_insert (b := b12) (by repeat (first | exact pk_head _ _ | apply pk_tail)) T.un35 T.un3 rfl rfl rfl (by rfl)) ?_
  refine L1 (os_insert (b := b12) (by repeat (first | exact pk_head _ _ | apply pk_tail)) T.un35 T.un3 rfl rfl rfl (by rfl)) ?_
  refine L1 (os_insert (b := b12) (by repeat (first | exact pk_head _ _ | apply pk_tail)) T.un35 T.un3 rfl rfl rfl (by rfl)) ?_
  refine L1 (os_insert (b := b12) (by repeat (first | exact pk_head _ _ | apply pk_tail)) T.un35 T.un3 rfl rfl rfl (by rfl)) ?_
  refine L1 (os_insert (b := b12) (by repeat (first | exact pk_head _ _ | apply pk_tail)) T.un35 T.un3 rfl rfl rfl (by rfl)) ?_
  refine L1 (os_insertTo (b := b12) (l' := wantL na nt) (by repeat (first | exact pk_head _ _ | apply pk_tail)) T.un35 T.un3 rfl rfl rfl (by rfl) (by rfl)) ?_
  refine L1 (ps_move rfl).os ?_
  refine L1 (ps_fa T.fa28_0 (by decide) rfl).os ?_
  refine L1 (os_load1 (by repeat (first | exact pk_head _ _ | apply pk_tail)) T.ag3 rfl (by rfl)) ?_
  refine L1 (os_lookup (b := b12) (l := wantL na nt) (by repeat (first | exact pk_head _ _ | apply pk_tail)) T.un35 T.un3 rfl rfl hwf) ?_
  refine L1 (ps_assign rfl).os ?_
  refine LW.nil ?_
  repeat (first | refine CW.seq ?_ | refine PW.then_ ?_ | refine CW.block ?_ | refine CW.skip ?_ | refine CW.ret ?_ | refine PW.then_ret ?_ | refine PW.block_ret ?_ | refine Cut.ret ?_ | refine Rnd.ret ?_ | refine PW.block_normal ?_ | refine CW.exit ?_ | refine PW.then_exit ?_ | refine PW.block_hit ?_ | refine PW.block_miss rfl ?_ | refine Cut.exit ?_ | refine Rnd.exit ?_)
  refine CW.region ?_
  refine L1 (os_loadAll (b := b1) (cs := rqCells Q (.slice pa na ca) (.slice pt0 nt ct)) (by repeat (first | exact pk_head _ _ | apply pk_tail)) T.ag28 (by exact T.sz28) rfl) ?_
  refine LE (os_call hB1 Try.func14 (by decide +kernel) rfl rfl (by repeat (first | exact pk_head _ _ | apply pk_tail))) ?_
  rintro _ _ ⟨_, ⟨u1, d1, rfl, rfl⟩, rfl⟩
  refine slOwn_info (pk_head _ _) fun m1 m2 m3 => ?_
  obtain ⟨vb, rfl⟩ := m3 (by omega)
  refine L1 (ps_assign rfl).os ?_
  refine LW.nil ?_
  have hby := ByR.own (e := 5) (d := d1) (q := some ⟨vb, 0, none⟩) (bs := reqB Q) rfl m1 (fun _ => ⟨vb, rfl⟩)
  have hsrc := fun As Bs (hp : List.Perm As (_ :: Bs)) => hby.at (i := 0) hpos hp
  rw [hfst] at hsrc
  repeat (first | refine CW.seq ?_ | refine PW.then_ ?_ | refine CW.block ?_ | refine CW.skip ?_ | refine CW.ret ?_ | refine PW.then_ret ?_ | refine PW.block_ret ?_ | refine Cut.ret ?_ | refine Rnd.ret ?_ | refine PW.block_normal ?_ | refine CW.exit ?_ | refine PW.then_exit ?_ | refine PW.block_hit ?_ | refine PW.block_miss rfl ?_ | refine Cut.exit ?_ | refine Rnd.exit ?_)
  refine CW.drawH [cb b1 28 (rqCells Q (.slice pa na ca) (.slice pt0 nt ct))] [] T.mixed ?_
  refine H_take (i := 0) (some 29) rfl rfl (by kernel_rfl) (by kernel_rfl) (by kernel_rfl) rfl (ps_move rfl).pl (by kernel_rfl) (pkc (by repeat (first | exact pk_head _ _ | apply pk_tail)) (pkn _)) ?_
  refine H_take (i := 1) (some 30) rfl rfl (by kernel_rfl) (by kernel_rfl) (by kernel_rfl) rfl (ps_len_sl T.un32 rfl).pl (by kernel_rfl) (pkc (by repeat (first | exact pk_head _ _ | apply pk_tail)) (pkn _)) ?_
  refine H_take (i := 2) (some 31) rfl rfl (by kernel_rfl) (by kernel_rfl) (by kernel_rfl) rfl (ps_move rfl).pl (by kernel_rfl) (pkc (by repeat (first | exact pk_head _ _ | apply pk_tail)) (pkn _)) ?_
  refine H_take (i := 3) (some 32) rfl rfl (by kernel_rfl) (by kernel_rfl) (by kernel_rfl) rfl (ps_t (ps_eql rfl rfl) (rfl)).pl (by kernel_rfl) (pkc (by repeat (first | exact pk_head _ _ | apply pk_tail)) (pkn _)) ?_
  refine H_take (i := 4) (some 33) rfl rfl (by kernel_rfl) (by kernel_rfl) (by kernel_rfl) rfl (ps_move rfl).pl (by kernel_rfl) (pkc (by repeat (first | exact pk_head _ _ | apply pk_tail)) (pkn _)) ?_
  refine H_take (i := 5) (some 34) rfl rfl (by kernel_rfl) (by kernel_rfl) (by kernel_rfl) rfl (ps_move rfl).pl (by kernel_rfl) (pkc (by repeat (first | exact pk_head _ _ | apply pk_tail)) (pkn _)) ?_
  refine H_take (i := 6) (some 35) rfl rfl (by kernel_rfl) (by kernel_rfl) (by kernel_rfl) rfl (ps_ia_slice T.un32 T.sz5 rfl rfl (by omega) (by omega)).pl (by kernel_rfl) (pkc (by repeat (first | exact pk_head _ _ | apply pk_tail)) (pkn _)) ?_
  refine H_take (i := 9) (some 38) rfl rfl (by kernel_rfl) (by kernel_rfl) (by kernel_rfl) rfl (ps_fa T.fa28_0 (by decide) rfl).pl (by kernel_rfl) (pkc (by repeat (first | exact pk_head _ _ | apply pk_tail)) (pkn _)) ?_
  refine H_take (i := 10) (some 39) rfl rfl (by kernel_rfl) (by kernel_rfl) (by kernel_rfl) rfl (pl_load1 (by repeat (first | exact pk_head _ _ | apply pk_tail)) T.ag3 rfl (by rfl)) (by kernel_rfl) (pkc (by repeat (first | exact pk_head _ _ | apply pk_tail)) (pkn _)) ?_
  refine H_branch (rs := [7]) (by kernel_rfl) (by simp) ?_
  refine HR.cons1 (i := 7) (some 36) rfl rfl rfl (os_loadS1 (v := .int .u8 Q.kind) (hsrc _ _ (by repeat (first | exact pk_head _ _ | apply pk_tail))) T.ag5 rfl) (pkc (by repeat (first | exact pk_head _ _ | apply pk_tail)) (pkn _)) ?_ ?_
  · skip
    refine H_take (i := 8) (some 37) rfl rfl (by kernel_rfl) (by kernel_rfl) (by kernel_rfl) rfl (ps_to (u := .int .i64 Q.kind) (congrArg _ (wrap_i64_id (by omega) (by omega))) (ps_conv (by kernel_rfl) T.un3 rfl)).pl (by kernel_rfl) (pkc (by repeat (first | exact pk_head _ _ | apply pk_tail)) (pkn _)) ?_
    refine H_take (i := 11) (some 40) rfl rfl (by kernel_rfl) (by kernel_rfl) (by kernel_rfl) rfl (ps_t (ps_eql rfl rfl) (rfl)).pl (by kernel_rfl) (pkc (by repeat (first | exact pk_head _ _ | apply pk_tail)) (pkn _)) ?_
    refine H_take (i := 12) (some 41) rfl rfl (by kernel_rfl) (by kernel_rfl) (by kernel_rfl) rfl (ps_pick_t rfl rfl).pl (by kernel_rfl) (pkc (by repeat (first | exact pk_head _ _ | apply pk_tail)) (pkn _)) ?_
    refine H_take (i := 13) (some 2) rfl rfl (by kernel_rfl) (by kernel_rfl) (by kernel_rfl) rfl (ps_assign rfl).pl (by kernel_rfl) (pkc (by repeat (first | exact pk_head _ _ | apply pk_tail)) (pkn _)) ?_
    refine H_done (by kernel_rfl) ?_
    repeat (first | refine CW.seq ?_ | refine PW.then_ ?_ | refine CW.block ?_ | refine CW.skip ?_ | refine CW.ret ?_ | refine PW.then_ret ?_ | refine PW.block_ret ?_ | refine Cut.ret ?_ | refine Rnd.ret ?_ | refine PW.block_normal ?_ | refine CW.exit ?_ | refine PW.then_exit ?_ | refine PW.block_hit ?_ | refine PW.block_miss rfl ?_ | refine Cut.exit ?_ | refine Rnd.exit ?_)
    exact Fin.ret1 (v := .bool true) rfl [bag (blks W)] rfl ⟨rfl, rfl⟩ (by repeat (first | exact Ent.refl _ | (apply Ent.cons; · repeat (first | exact pk_head _ _ | apply pk_tail)) | apply Ent.skip))
  exact HR.nil

namespace wireSizes
open Go.ChangeShapes Go.WideShapes Go.ChangeAt Go.RowKit
theorem own : ownKnob Try.prog.godebug = none := by kernel_rfl
theorem laidOut : laidOutB Try.prog = true := by kernel_rfl
set_option maxRecDepth 100000 in
theorem lifted (os : Os) (started : os.Started) (H : Type) (enc : TypeId × Value → H) :
    ReturnsInHanded {} Try.checked os 4 .any (Rows.wireSizesSpec.pre6 enc Try.prog Try.f4 Rows.wireSizesRow.domain false) (Rows.wireSizesSpec.post enc Try.prog Try.f4 false true false false) := by
  refine returnsInHanded_of_change (C := Try.checked) own started (by kernel_rfl) Try.func4
    (ChangeSpec.witness6 (enc := enc) (C := Try.checked) false ⟨#[], #[(.agg (([Value.int .i64 0]) ++ ([Value.slice none 0 0]) ++ ([Value.slice none 0 0]) ++ (([Value.int .u64 0]) ++ ([Value.int .u64 0])) ++ ([Value.int .i64 0]) ++ ([Value.int .i64 0]) ++ ([Value.int .i64 0])).toArray)], []⟩ 8 (by kernel_rfl) (by kernel_rfl) (by kernel_rfl) (by kernel_rfl)) ?_
  intro W base args ds gs before hval0 hW hcnd _
  have hval : ∀ (j : Nat) t v, Try.f4.params[j]? = some t → args[j]? = some v → Value.okWide Try.prog W .any base t v := hval0
  have hW' := hW
  obtain ⟨p, q, hA0, hV, rfl, hfz, hnd⟩ := hW
  have hA : DataW.TrodAll enc Try.prog W 0 (fun _ => true) true Try.f4.params.toList args.toList ds p := hA0
  rw [Try.params4] at hA hval
  obtain ⟨v0, vs0, d0, ds0, p0, q0, hargs, rfl, rfl, h0, r0⟩ := trodAll_cons hA
  obtain ⟨rfl, rfl, rfl⟩ := trodAll_nil r0
  obtain rfl : args = #[v0] := by cases args; simp_all
  obtain ⟨rfl, rfl⟩ := trodVars_none hV
  obtain ⟨cs0, rfl, hcs0⟩ := okWide_agg T.ag28 (hval 0 28 v0 rfl rfl)
  obtain ⟨fu0, hf0⟩ := h0
  obtain ⟨a0, b0, c0⟩ := open_apiRequest hf0
  simp only [List.append_nil] at hW'
  refine (LawOf.calls (WireSizes_law W _ a0 b0 c0)).mono fun e W' ⟨he, hb⟩ => ?_
  subst he
  exact ⟨_, rfl, law_post laidOut rfl (tb := 4) (by kernel_rfl) T.un4 (by intro t ht; rw [Try.params4] at ht; simp only [List.mem_cons, List.not_mem_nil, or_false] at ht; rcases ht with rfl <;> exact ⟨by kernel_rfl, by decide +kernel⟩) rfl hW' hb⟩
theorem holds : Rows.WireSizesSaid :=
  OpenClaim.holds_of_wide 4 Try.f4 rfl rfl rfl rfl rfl rfl rfl ⟨rfl, rfl, rfl, rfl, rfl⟩ rfl rfl rfl rfl rfl (by kernel_rfl) Try.func4 (by kernel_rfl)
    (of_decide_eq_true (by kernel_rfl)) (by unfold Func.isWrapper; rw [if_neg (of_decide_eq_false (by kernel_rfl))]; exact ⟨rfl, rfl⟩)
    (fun os started H enc _ => lifted os started H enc)
end wireSizes
end Go.Proofs.Ytpcjjchanjdkaaa
