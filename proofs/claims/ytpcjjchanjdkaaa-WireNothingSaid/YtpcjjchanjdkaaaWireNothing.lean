/- The law WireNothing: bytes of kinds that are none, and no bytes, are no requests: it answers true for every byte and every bytes (no condition). -/
import Derived.Test.YtpcjjchanjdkaaaWireFit
import Derived.Test.YtpcjjchanjdkaaaRows
namespace Go.Proofs.Ytpcjjchanjdkaaa
open Go Go.SL
set_option linter.unusedVariables false
set_option linter.unusedSimpArgs false

theorem rdn1_cons (c : UInt8) (bs : List UInt8) : rdn 1 (c :: bs, false) = (c.toNat, (bs, false)) := by
  have : ¬ (bs.length + 1 < 1) := by omega
  simp [rdn, rdT, this, num]
theorem readReq_none (c : UInt8) (bs : List UInt8) (h : ¬ (1 ≤ c.toNat ∧ c.toNat ≤ 9)) : readReq (c :: bs) = (RQ.zero, 1) := by
  have h0 : c.toNat = 0 ∨ 9 < c.toNat := by omega
  have hb : rdBody c.toNat (bs, false) = (RQ.zero, 1, (bs, false)) := by
    unfold rdBody
    rw [if_neg (by omega), if_neg (by omega), if_neg (by omega), if_neg (by omega), if_neg (by omega), if_neg (by omega)]
  simp only [readReq, rdn1_cons, hb]
  simp
theorem readReq_nil : readReq [] = (RQ.zero, 1) := by kernel_rfl
theorem WireNothing_law (W : World) (k0 : Int) (hk : 0 ≤ k0 ∧ k0 < 256) (v : Value) (bs : List UInt8) (hv : ByR (bag (blks W)) v bs) (hm : bs.length ≤ maxLen) : LawOf Try.prog 6 [.int .u8 k0, v] W := by
  obtain ⟨c, hc⟩ : ∃ c : UInt8, k0 = (c.toNat : Int) := ⟨UInt8.ofNat k0.toNat, by rw [UInt8.toNat_ofNat']; omega⟩
  subst hc
  have hv0 := hv
  obtain ⟨vq, vc, rfl, hcap, -⟩ := hv0
  have hmm := hm
  unfold maxLen at hmm
  refine FSpec.intro Try.func6 rfl 40 Try.ntmps6 (Nat.le_of_ble_eq_true rfl) fun w0 F => ?_
  show CW _ _ _ _ _ _ (_ :: F)
  repeat (first | refine CW.seq ?_ | refine PW.then_ ?_ | refine CW.block ?_ | refine CW.skip ?_ | refine CW.ret ?_ | refine PW.then_ret ?_ | refine PW.block_ret ?_ | refine Cut.ret ?_ | refine Rnd.ret ?_ | refine PW.block_normal ?_ | refine CW.exit ?_ | refine PW.then_exit ?_ | refine PW.block_hit ?_ | refine PW.block_miss rfl ?_ | refine Cut.exit ?_ | refine Rnd.exit ?_)
  refine CW.region ?_
  refine L1 (ps_assign rfl).os ?_
  refine LW.nil ?_
  repeat (first | refine CW.seq ?_ | refine PW.then_ ?_ | refine CW.block ?_ | refine CW.skip ?_ | refine CW.ret ?_ | refine PW.then_ret ?_ | refine PW.block_ret ?_ | refine Cut.ret ?_ | refine Rnd.ret ?_ | refine PW.block_normal ?_ | refine CW.exit ?_ | refine PW.then_exit ?_ | refine PW.block_hit ?_ | refine PW.block_miss rfl ?_ | refine Cut.exit ?_ | refine Rnd.exit ?_)
  refine CW.region ?_
  refine L1 (os_call0 fit_spec Try.func11 (by decide +kernel) rfl rfl) ?_
  refine L1 (ps_not rfl).os ?_
  refine LW.nil ?_
  repeat (first | refine CW.seq ?_ | refine PW.then_ ?_ | refine CW.block ?_ | refine CW.skip ?_ | refine CW.ret ?_ | refine PW.then_ret ?_ | refine PW.block_ret ?_ | refine Cut.ret ?_ | refine Rnd.ret ?_ | refine PW.block_normal ?_ | refine CW.exit ?_ | refine PW.then_exit ?_ | refine PW.block_hit ?_ | refine PW.block_miss rfl ?_ | refine Cut.exit ?_ | refine Rnd.exit ?_)
  refine CW.cond_false rfl ?_
  repeat (first | refine CW.seq ?_ | refine PW.then_ ?_ | refine CW.block ?_ | refine CW.skip ?_ | refine CW.ret ?_ | refine PW.then_ret ?_ | refine PW.block_ret ?_ | refine Cut.ret ?_ | refine Rnd.ret ?_ | refine PW.block_normal ?_ | refine CW.exit ?_ | refine PW.then_exit ?_ | refine PW.block_hit ?_ | refine PW.block_miss rfl ?_ | refine Cut.exit ?_ | refine Rnd.exit ?_)
  by_cases hlen : (300 : Int) < bs.length
  · refine CW.region ?_
    refine L1 (ps_move rfl).os ?_
    refine L1 (ps_len_sl T.un32 rfl).os ?_
    refine L1 (ps_t (ps_gtr rfl rfl) (hlen)).os ?_
    refine LW.nil ?_
    repeat (first | refine CW.seq ?_ | refine PW.then_ ?_ | refine CW.block ?_ | refine CW.skip ?_ | refine CW.ret ?_ | refine PW.then_ret ?_ | refine PW.block_ret ?_ | refine Cut.ret ?_ | refine Rnd.ret ?_ | refine PW.block_normal ?_ | refine CW.exit ?_ | refine PW.then_exit ?_ | refine PW.block_hit ?_ | refine PW.block_miss rfl ?_ | refine Cut.exit ?_ | refine Rnd.exit ?_)
    refine CW.cond_true rfl ?_
    repeat (first | refine CW.seq ?_ | refine PW.then_ ?_ | refine CW.block ?_ | refine CW.skip ?_ | refine CW.ret ?_ | refine PW.then_ret ?_ | refine PW.block_ret ?_ | refine Cut.ret ?_ | refine Rnd.ret ?_ | refine PW.block_normal ?_ | refine CW.exit ?_ | refine PW.then_exit ?_ | refine PW.block_hit ?_ | refine PW.block_miss rfl ?_ | refine Cut.exit ?_ | refine Rnd.exit ?_)
    refine CW.region ?_
    refine L1 (ps_assign rfl).os ?_
    refine LW.nil ?_
    repeat (first | refine CW.seq ?_ | refine PW.then_ ?_ | refine CW.block ?_ | refine CW.skip ?_ | refine CW.ret ?_ | refine PW.then_ret ?_ | refine PW.block_ret ?_ | refine Cut.ret ?_ | refine Rnd.ret ?_ | refine PW.block_normal ?_ | refine CW.exit ?_ | refine PW.then_exit ?_ | refine PW.block_hit ?_ | refine PW.block_miss rfl ?_ | refine Cut.exit ?_ | refine Rnd.exit ?_)
    exact Fin.ret1 (v := .bool true) rfl [bag (blks W)] rfl ⟨rfl, rfl⟩ (by repeat (first | exact Ent.refl _ | (apply Ent.cons; · repeat (first | exact pk_head _ _ | apply pk_tail)) | apply Ent.skip))
  refine CW.region ?_
  refine L1 (ps_move rfl).os ?_
  refine L1 (ps_len_sl T.un32 rfl).os ?_
  refine L1 (ps_f (ps_gtr rfl rfl) (hlen)).os ?_
  refine LW.nil ?_
  repeat (first | refine CW.seq ?_ | refine PW.then_ ?_ | refine CW.block ?_ | refine CW.skip ?_ | refine CW.ret ?_ | refine PW.then_ret ?_ | refine PW.block_ret ?_ | refine Cut.ret ?_ | refine Rnd.ret ?_ | refine PW.block_normal ?_ | refine CW.exit ?_ | refine PW.then_exit ?_ | refine PW.block_hit ?_ | refine PW.block_miss rfl ?_ | refine Cut.exit ?_ | refine Rnd.exit ?_)
  refine CW.cond_false rfl ?_
  repeat (first | refine CW.seq ?_ | refine PW.then_ ?_ | refine CW.block ?_ | refine CW.skip ?_ | refine CW.ret ?_ | refine PW.then_ret ?_ | refine PW.block_ret ?_ | refine Cut.ret ?_ | refine Rnd.ret ?_ | refine PW.block_normal ?_ | refine CW.exit ?_ | refine PW.then_exit ?_ | refine PW.block_hit ?_ | refine PW.block_miss rfl ?_ | refine Cut.exit ?_ | refine Rnd.exit ?_)
  have hr : readReq [] = (RQ.zero, 1) := readReq_nil
  obtain ⟨q1, e1, hq1⟩ : ∃ q e, readReq (c :: bs) = (q, e) := ⟨_, _, rfl⟩
  have hin : ¬ (1 ≤ c.toNat ∧ c.toNat ≤ 9) → e1 = 1 := fun h => by
    rw [readReq_none c bs h] at hq1
    exact (Prod.ext_iff.1 hq1).2.symm
  refine CW.region ?_
  refine L1 (ps_move rfl).os ?_
  refine LE (os_bslv (vs := bv [c]) T.un32 T.ti5 (by rfl) (by rfl) rfl (bv_one _) (by decide) (by decide)) ?_
  rintro _ _ ⟨b16, rfl, rfl⟩
  refine J.ent (Ent.slMk (m := 1) (cap := 1) (cur := bv [c]) (size := 1) (by decide) (by decide) rfl rfl _) ?_
  refine L1 (ps_move rfl).os ?_
  refine LE (os_append (news := bv bs) (by repeat (first | exact pk_head _ _ | apply pk_tail)) T.un32 T.ti5 (by rfl) (by decide) rfl rfl (by simp) (hv.src (by repeat (first | exact pk_head _ _ | apply pk_tail))) (bv_one _) (by unfold maxLen; omega) (by omega)) ?_
  rintro _ _ ⟨q', d', rfl, rfl, hq'⟩
  refine slOwn_info (pk_head _ _) fun hmd hdm hqs => ?_
  refine LE (os_call (ReadRequest_to (A := slOwn 5 1 (.slice q' (1 + bs.length) d') (1 + bs.length) (bv [c] ++ bv bs)) (ByR.own (bs := c :: bs) (by simp; omega) hmd hqs) (by simp; unfold maxLen; omega) hq1) Try.func16 (by decide +kernel) rfl rfl (by repeat (first | exact pk_head _ _ | apply pk_tail))) ?_
  rintro _ _ ⟨_, ⟨av, tv, B, rfl, rfl, hav, htv⟩, rfl⟩
  refine L1 (ps_move rfl).os ?_
  refine L1 (ps_extract rfl rfl).os ?_
  refine L1 (ps_extract rfl rfl).os ?_
  refine LE (os_alloc T.ti28) ?_
  rintro _ _ ⟨b5, rfl, rfl⟩
  refine L1 (os_storeAll (b := b5) (vs := rqCells q1 av tv) (by repeat (first | exact pk_head _ _ | apply pk_tail)) (by exact T.sz28) rfl rfl (rqCells_one hav htv) (by rfl)) ?_
  refine L1 (ps_assign rfl).os ?_
  refine LW.nil ?_
  repeat (first | refine CW.seq ?_ | refine PW.then_ ?_ | refine CW.block ?_ | refine CW.skip ?_ | refine CW.ret ?_ | refine PW.then_ret ?_ | refine PW.block_ret ?_ | refine Cut.ret ?_ | refine Rnd.ret ?_ | refine PW.block_normal ?_ | refine CW.exit ?_ | refine PW.then_exit ?_ | refine PW.block_hit ?_ | refine PW.block_miss rfl ?_ | refine Cut.exit ?_ | refine Rnd.exit ?_)
  refine J.ent (Ent.emp _) ?_
  refine CW.region ?_
  refine LE (os_call (ReadRequest_to (A := bag []) (ByR.nil' _) (by decide) hr) Try.func16 (by decide +kernel) rfl rfl (by repeat (first | exact pk_head _ _ | apply pk_tail))) ?_
  rintro _ _ ⟨_, ⟨av2, tv2, B2, rfl, rfl, hav2, htv2⟩, rfl⟩
  refine L1 (ps_move rfl).os ?_
  refine L1 (ps_extract rfl rfl).os ?_
  refine L1 (ps_extract rfl rfl).os ?_
  refine LE (os_alloc T.ti28) ?_
  rintro _ _ ⟨b7, rfl, rfl⟩
  refine L1 (os_storeAll (b := b7) (vs := rqCells RQ.zero av2 tv2) (by repeat (first | exact pk_head _ _ | apply pk_tail)) (by exact T.sz28) rfl rfl (rqCells_one hav2 htv2) (by rfl)) ?_
  refine L1 (ps_assign rfl).os ?_
  refine LW.nil ?_
  repeat (first | refine CW.seq ?_ | refine PW.then_ ?_ | refine CW.block ?_ | refine CW.skip ?_ | refine CW.ret ?_ | refine PW.then_ret ?_ | refine PW.block_ret ?_ | refine Cut.ret ?_ | refine Rnd.ret ?_ | refine PW.block_normal ?_ | refine CW.exit ?_ | refine PW.then_exit ?_ | refine PW.block_hit ?_ | refine PW.block_miss rfl ?_ | refine Cut.exit ?_ | refine Rnd.exit ?_)
  by_cases h1 : (1 : Int) ≤ (c.toNat : Int)
  · by_cases h9 : (c.toNat : Int) ≤ 9
    · refine CW.region ?_
      refine L1 (ps_move rfl).os ?_
      refine L1 (ps_t (ps_eql rfl rfl) (rfl)).os ?_
      refine L1 (ps_move rfl).os ?_
      refine LG1 ?_ (ps_move rfl).os ?_
      · exact rfl
      refine LG1 ?_ (ps_t (ps_geq rfl rfl) (h1)).os ?_
      · exact rfl
      refine LG1 ?_ (ps_move rfl).os ?_
      · exact rfl
      refine LG1 ?_ (ps_move rfl).os ?_
      · exact rfl
      refine LG1 ?_ (ps_t (ps_leq rfl rfl) (h9)).os ?_
      · exact rfl
      refine LG1 ?_ (ps_pick_t rfl rfl).os ?_
      · exact rfl
      refine LG1 ?_ (ps_move rfl).os ?_
      · exact rfl
      refine LG0f ?_ ?_
      · exact rfl
      refine LG0f ?_ ?_
      · exact rfl
      refine LG1 ?_ (ps_pick_t rfl rfl).os ?_
      · exact rfl
      refine L1 (ps_pick_t rfl rfl).os ?_
      refine L1 (ps_assign rfl).os ?_
      refine LW.nil ?_
      repeat (first | refine CW.seq ?_ | refine PW.then_ ?_ | refine CW.block ?_ | refine CW.skip ?_ | refine CW.ret ?_ | refine PW.then_ret ?_ | refine PW.block_ret ?_ | refine Cut.ret ?_ | refine Rnd.ret ?_ | refine PW.block_normal ?_ | refine CW.exit ?_ | refine PW.then_exit ?_ | refine PW.block_hit ?_ | refine PW.block_miss rfl ?_ | refine Cut.exit ?_ | refine Rnd.exit ?_)
      exact Fin.ret1 (v := .bool true) rfl [bag (blks W)] rfl ⟨rfl, rfl⟩ (by repeat (first | exact Ent.refl _ | (apply Ent.cons; · repeat (first | exact pk_head _ _ | apply pk_tail)) | apply Ent.skip))
    · have he1 := hin (by omega)
      subst he1
      refine CW.region ?_
      refine L1 (ps_move rfl).os ?_
      refine L1 (ps_t (ps_eql rfl rfl) (rfl)).os ?_
      refine L1 (ps_move rfl).os ?_
      refine LG1 ?_ (ps_move rfl).os ?_
      · exact rfl
      refine LG1 ?_ (ps_t (ps_geq rfl rfl) (h1)).os ?_
      · exact rfl
      refine LG1 ?_ (ps_move rfl).os ?_
      · exact rfl
      refine LG1 ?_ (ps_move rfl).os ?_
      · exact rfl
      refine LG1 ?_ (ps_f (ps_leq rfl rfl) (h9)).os ?_
      · exact rfl
      refine LG1 ?_ (ps_pick_t rfl rfl).os ?_
      · exact rfl
      refine LG1 ?_ (ps_move rfl).os ?_
      · exact rfl
      refine LG1 ?_ (ps_move rfl).os ?_
      · exact rfl
      refine LG1 ?_ (ps_t (ps_eql rfl rfl) (rfl)).os ?_
      · exact rfl
      refine LG1 ?_ (ps_pick_f rfl rfl).os ?_
      · exact rfl
      refine L1 (ps_pick_t rfl rfl).os ?_
      refine L1 (ps_assign rfl).os ?_
      refine LW.nil ?_
      repeat (first | refine CW.seq ?_ | refine PW.then_ ?_ | refine CW.block ?_ | refine CW.skip ?_ | refine CW.ret ?_ | refine PW.then_ret ?_ | refine PW.block_ret ?_ | refine Cut.ret ?_ | refine Rnd.ret ?_ | refine PW.block_normal ?_ | refine CW.exit ?_ | refine PW.then_exit ?_ | refine PW.block_hit ?_ | refine PW.block_miss rfl ?_ | refine Cut.exit ?_ | refine Rnd.exit ?_)
      exact Fin.ret1 (v := .bool true) rfl [bag (blks W)] rfl ⟨rfl, rfl⟩ (by repeat (first | exact Ent.refl _ | (apply Ent.cons; · repeat (first | exact pk_head _ _ | apply pk_tail)) | apply Ent.skip))
  · have he1 := hin (by omega)
    subst he1
    refine CW.region ?_
    refine L1 (ps_move rfl).os ?_
    refine L1 (ps_t (ps_eql rfl rfl) (rfl)).os ?_
    refine L1 (ps_move rfl).os ?_
    refine LG1 ?_ (ps_move rfl).os ?_
    · exact rfl
    refine LG1 ?_ (ps_f (ps_geq rfl rfl) (h1)).os ?_
    · exact rfl
    refine LG1 ?_ (ps_move rfl).os ?_
    · exact rfl
    refine LG0t ?_ ?_
    · exact rfl
    refine LG0t ?_ ?_
    · exact rfl
    refine LG1 ?_ (ps_pick_f rfl rfl).os ?_
    · exact rfl
    refine LG1 ?_ (ps_move rfl).os ?_
    · exact rfl
    refine LG1 ?_ (ps_move rfl).os ?_
    · exact rfl
    refine LG1 ?_ (ps_t (ps_eql rfl rfl) (rfl)).os ?_
    · exact rfl
    refine LG1 ?_ (ps_pick_f rfl rfl).os ?_
    · exact rfl
    refine L1 (ps_pick_t rfl rfl).os ?_
    refine L1 (ps_assign rfl).os ?_
    refine LW.nil ?_
    repeat (first | refine CW.seq ?_ | refine PW.then_ ?_ | refine CW.block ?_ | refine CW.skip ?_ | refine CW.ret ?_ | refine PW.then_ret ?_ | refine PW.block_ret ?_ | refine Cut.ret ?_ | refine Rnd.ret ?_ | refine PW.block_normal ?_ | refine CW.exit ?_ | refine PW.then_exit ?_ | refine PW.block_hit ?_ | refine PW.block_miss rfl ?_ | refine Cut.exit ?_ | refine Rnd.exit ?_)
    exact Fin.ret1 (v := .bool true) rfl [bag (blks W)] rfl ⟨rfl, rfl⟩ (by repeat (first | exact Ent.refl _ | (apply Ent.cons; · repeat (first | exact pk_head _ _ | apply pk_tail)) | apply Ent.skip))

namespace wireNothing
open Go.ChangeShapes Go.WideShapes Go.ChangeAt Go.RowKit
theorem own : ownKnob Try.prog.godebug = none := by kernel_rfl
theorem laidOut : laidOutB Try.prog = true := by kernel_rfl
set_option maxRecDepth 100000 in
theorem lifted (os : Os) (started : os.Started) (H : Type) (enc : TypeId × Value → H) :
    ReturnsInHanded {} Try.checked os 6 .any (Rows.wireNothingSpec.pre6 enc Try.prog Try.f6 Rows.wireNothingRow.domain false) (Rows.wireNothingSpec.post enc Try.prog Try.f6 false true false false) := by
  refine returnsInHanded_of_change (C := Try.checked) own started (by kernel_rfl) Try.func6
    (ChangeSpec.witness6 (enc := enc) (C := Try.checked) false ⟨#[], #[(Value.int .u8 0), (Value.slice none 0 0)], []⟩ 8 (by kernel_rfl) (by kernel_rfl) (by kernel_rfl) (by kernel_rfl)) ?_
  intro W base args ds gs before hval0 hW hcnd _
  have hval : ∀ (j : Nat) t v, Try.f6.params[j]? = some t → args[j]? = some v → Value.okWide Try.prog W .any base t v := hval0
  have hW' := hW
  obtain ⟨p, q, hA0, hV, rfl, hfz, hnd⟩ := hW
  have hA : DataW.TrodAll enc Try.prog W 0 (fun _ => true) true Try.f6.params.toList args.toList ds p := hA0
  rw [Try.params6] at hA hval
  obtain ⟨v0, vs0, d0, ds0, p0, q0, hargs, rfl, rfl, h0, r0⟩ := trodAll_cons hA
  obtain ⟨v1, vs1, d1, ds1, p1, q1, rfl, rfl, rfl, h1, r1⟩ := trodAll_cons r0
  obtain ⟨rfl, rfl, rfl⟩ := trodAll_nil r1
  obtain rfl : args = #[v0, v1] := by cases args; simp_all
  obtain ⟨rfl, rfl⟩ := trodVars_none hV
  obtain ⟨a0, rfl, rfl, rfl, wf0⟩ := open_int T.un5 (hval 0 5 v0 rfl rfl) h0
  have w0 := bounds_u8' wf0
  obtain ⟨_, _, _, rfl⟩ := okWide_slice T.un32 (hval 1 32 v1 rfl rfl)
  obtain ⟨fu1, hf1⟩ := h1
  obtain ⟨a1, b1, w1⟩ := open_bytes T.un32 T.un5 T.co5 hf1
  simp only [List.append_nil] at hW'
  refine (LawOf.calls (WireNothing_law W a0 w0 _ a1 b1 w1)).mono fun e W' ⟨he, hb⟩ => ?_
  subst he
  exact ⟨_, rfl, law_post laidOut rfl (tb := 4) (by kernel_rfl) T.un4 (by intro t ht; rw [Try.params6] at ht; simp only [List.mem_cons, List.not_mem_nil, or_false] at ht; rcases ht with rfl | rfl <;> exact ⟨by kernel_rfl, by decide +kernel⟩) rfl hW' hb⟩
theorem holds : Rows.WireNothingSaid :=
  OpenClaim.holds_of_wide 6 Try.f6 rfl rfl rfl rfl rfl rfl rfl ⟨rfl, rfl, rfl, rfl, rfl⟩ rfl rfl rfl rfl rfl (by kernel_rfl) Try.func6 (by kernel_rfl)
    (of_decide_eq_true (by kernel_rfl)) (by unfold Func.isWrapper; rw [if_neg (of_decide_eq_false (by kernel_rfl))]; exact ⟨rfl, rfl⟩)
    (fun os started H enc _ => lifted os started H enc)
end wireNothing
end Go.Proofs.Ytpcjjchanjdkaaa
