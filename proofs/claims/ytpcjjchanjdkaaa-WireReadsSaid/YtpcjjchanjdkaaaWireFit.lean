/- The laws of wire: their first part (fit). -/
import Derived.Test.YtpcjjchanjdkaaaReq
namespace Go.Proofs.Ytpcjjchanjdkaaa
set_option linter.unusedVariables false
set_option linter.unusedSimpArgs false
open Go Go.SL

theorem rqCells_one {B : Asn} {q : RQ} {av tv : Value} {r1 r2 : List (List Value)} (hav : RowsR B av 46 r1) (htv : RowsR B tv 16 r2) : ∀ u ∈ rqCells q av tv, u.oneCell' = true := fun u hu => by
  obtain ⟨_, _, e1, _⟩ := hav.len
  obtain ⟨_, _, e2, _⟩ := htv.len
  subst e1; subst e2
  simp only [rqCells, nc, List.cons_append, List.nil_append, List.mem_cons, List.not_mem_nil, or_false] at hu
  rcases hu with rfl | rfl | rfl | rfl | rfl | rfl | rfl | rfl <;> rfl
theorem ReadRequest_to {A : Asn} {v : Value} {bs : List UInt8} {q : RQ} {e : Nat} (hb : ByR A v bs) (hm : bs.length ≤ maxLen) (h : readReq bs = (q, e)) : FSpec Try.prog 16 [v] [A] (ReqOut A q e) := by
  have := ReadRequest_spec A v bs hb hm
  rwa [h] at this
theorem fit_spec : FSpec Try.prog 11 [] [] (fun v As => v = .bool true ∧ As = []) := by
  have p1 := Print_spec 7 (by decide)
  rw [show digs 7 = [55] by decide +kernel] at p1
  have hr : readReq [3, 0, 0, 0, 7] = (⟨3, [], [], 0, 7, 0, 0⟩, 0) := by kernel_rfl
  refine FSpec.intro Try.func11 rfl 25 Try.ntmps11 (Nat.le_of_ble_eq_true rfl) fun w0 F => ?_
  show CW _ _ _ _ _ _ (F)
  repeat (first | refine CW.seq ?_ | refine PW.then_ ?_ | refine CW.block ?_ | refine CW.skip ?_ | refine CW.ret ?_ | refine PW.then_ret ?_ | refine PW.block_ret ?_ | refine Cut.ret ?_ | refine Rnd.ret ?_ | refine PW.block_normal ?_ | refine CW.exit ?_ | refine PW.then_exit ?_ | refine PW.block_hit ?_ | refine PW.block_miss rfl ?_ | refine Cut.exit ?_ | refine Rnd.exit ?_)
  refine CW.region ?_
  refine L1 (ps_assign rfl).os ?_
  refine LW.nil ?_
  repeat (first | refine CW.seq ?_ | refine PW.then_ ?_ | refine CW.block ?_ | refine CW.skip ?_ | refine CW.ret ?_ | refine PW.then_ret ?_ | refine PW.block_ret ?_ | refine Cut.ret ?_ | refine Rnd.ret ?_ | refine PW.block_normal ?_ | refine CW.exit ?_ | refine PW.then_exit ?_ | refine PW.block_hit ?_ | refine PW.block_miss rfl ?_ | refine Cut.exit ?_ | refine Rnd.exit ?_)
  refine CW.region ?_
  refine LE (os_bslv (vs := bv [3, 0, 0, 0, 7]) T.un32 T.ti5 (by rfl) (by rfl) rfl (bv_one _) (by decide) (by decide)) ?_
  rintro _ _ ⟨b4, rfl, rfl⟩
  refine LE (os_call (ReadRequest_to (A := cb b4 5 (bv [3, 0, 0, 0, 7])) (ByR.cb (by rfl) rfl (by decide)) (by decide) hr) Try.func16 (by decide +kernel) rfl rfl (by repeat (first | exact pk_head _ _ | apply pk_tail))) ?_
  rintro _ _ ⟨_, ⟨av, tv, B, rfl, rfl, hav, htv⟩, rfl⟩
  refine L1 (ps_move rfl).os ?_
  refine L1 (ps_extract rfl rfl).os ?_
  refine L1 (ps_extract rfl rfl).os ?_
  refine LE (os_alloc T.ti28) ?_
  rintro _ _ ⟨b1, rfl, rfl⟩
  refine L1 (os_storeAll (b := b1) (vs := rqCells ⟨3, [], [], 0, 7, 0, 0⟩ av tv) (by repeat (first | exact pk_head _ _ | apply pk_tail)) (by exact T.sz28) rfl rfl (rqCells_one hav htv) (by rfl)) ?_
  refine L1 (ps_assign rfl).os ?_
  refine LW.nil ?_
  repeat (first | refine CW.seq ?_ | refine PW.then_ ?_ | refine CW.block ?_ | refine CW.skip ?_ | refine CW.ret ?_ | refine PW.then_ret ?_ | refine PW.block_ret ?_ | refine Cut.ret ?_ | refine Rnd.ret ?_ | refine PW.block_normal ?_ | refine CW.exit ?_ | refine PW.then_exit ?_ | refine PW.block_hit ?_ | refine PW.block_miss rfl ?_ | refine Cut.exit ?_ | refine Rnd.exit ?_)
  refine CW.region ?_
  refine L1 (ps_move rfl).os ?_
  refine L1 (ps_t (ps_eql rfl rfl) (rfl)).os ?_
  refine L1 (ps_move rfl).os ?_
  refine LG1 ?_ (ps_fa T.fa28_0 (by decide) rfl).os ?_
  · exact rfl
  refine LG1 ?_ (os_load1 (by repeat (first | exact pk_head _ _ | apply pk_tail)) T.ag3 rfl (by rfl)) ?_
  · exact rfl
  refine LG1 ?_ (ps_t (ps_eql rfl rfl) (rfl)).os ?_
  · exact rfl
  refine L1 (ps_pick_t rfl rfl).os ?_
  refine L1 (ps_move rfl).os ?_
  refine LG1 ?_ (ps_fa T.fa28_4 (by decide) rfl).os ?_
  · exact rfl
  refine LG1 ?_ (os_load1 (by repeat (first | exact pk_head _ _ | apply pk_tail)) T.ag3 rfl (by rfl)) ?_
  · exact rfl
  refine LG1 ?_ (ps_t (ps_eql rfl rfl) (rfl)).os ?_
  · exact rfl
  refine L1 (ps_pick_t rfl rfl).os ?_
  refine L1 (ps_move rfl).os ?_
  refine LG1 ?_ (os_call0 (Of_spec 7 (by decide)) Try.func33 (by decide +kernel) rfl rfl) ?_
  · exact rfl
  refine LG1 ?_ (os_call0 p1 Try.func32 (by decide +kernel) rfl rfl) ?_
  · exact rfl
  refine LG1 ?_ (ps_t (ps_strV_eql [55] _ rfl rfl) rfl).os ?_
  · exact rfl
  refine L1 (ps_pick_t rfl rfl).os ?_
  refine L1 (ps_assign rfl).os ?_
  refine LW.nil ?_
  repeat (first | refine CW.seq ?_ | refine PW.then_ ?_ | refine CW.block ?_ | refine CW.skip ?_ | refine CW.ret ?_ | refine PW.then_ret ?_ | refine PW.block_ret ?_ | refine Cut.ret ?_ | refine Rnd.ret ?_ | refine PW.block_normal ?_ | refine CW.exit ?_ | refine PW.then_exit ?_ | refine PW.block_hit ?_ | refine PW.block_miss rfl ?_ | refine Cut.exit ?_ | refine Rnd.exit ?_)
  exact Fin.ret1 (v := .bool true) rfl [] rfl ⟨rfl, rfl⟩ (by repeat (first | exact Ent.refl _ | (apply Ent.cons; · repeat (first | exact pk_head _ _ | apply pk_tail)) | apply Ent.skip))
end Go.Proofs.Ytpcjjchanjdkaaa
