/- The document's own hash: the numbers are added -/
import Derived.Test.YtcfipblnaifbhaaDoorShaU
namespace Go.Proofs.YtcfipblnaifbhaaDoor
set_option linter.unusedVariables false
set_option linter.unusedSimpArgs false
open Go Go.SL

set_option maxHeartbeats 4000000 in
set_option maxRecDepth 10000 in
theorem rMix (h s : List UInt32) (gh dh gv dv : Nat) (hhl : h.length = 8) (hsl : s.length = 8) :
    Piece (α := Unit) Tryd.prog (sub Tryd.f10 [true, true, true, true, true, true, true, true, false, true, true, true, true, false, true, true, true, true, true, true]) 311 [22, 278, 279, 280, 281, 282, 283, 284, 285, 286, 287, 288, 289, 290, 291] [(22, .int .i64 ((0 : Nat) : Int)), (14, .slice (some ⟨gv, 0, none⟩) 8 dv), (7, .slice (some ⟨gh, 0, none⟩) 8 dh)]
      [slOwn 45 1 (.slice (some ⟨gh, 0, none⟩) 8 dh) 8 (wv h), slOwn 45 1 (.slice (some ⟨gv, 0, none⟩) 8 dv) 8 (wv s)] (fun _ => True) (fun _ => [])
      (fun _ => [slOwn 45 1 (.slice (some ⟨gh, 0, none⟩) 8 dh) 8 (wv (List.zipWith (· + ·) h s)), slOwn 45 1 (.slice (some ⟨gv, 0, none⟩) 8 dv) 8 (wv s)]) := by
  intro Q f w0 F
  show CW _ (Code.block _ (Code.loop _)) _ _ _ _ (_ :: _ :: F)
  have hm0 : mixH h s 0 = h := by simp [mixH]
  have hsv8 : (wv s).length = 8 := by rw [length_wv, hsl]
  have hvS := fun As Bs (hp : List.Perm As (slOwn 45 1 (.slice (some ⟨gv, 0, none⟩) 8 dv) 8 (wv s) :: Bs)) => Src.own (e := 45) (m := 8) (d := dv) (q := some ⟨gv, 0, none⟩) (xs := wv s) hsv8 (fun _ => ⟨gv, rfl⟩) hp
  generalize slOwn 45 1 (.slice (some ⟨gv, 0, none⟩) 8 dv) 8 (wv s) = V at hvS ⊢
  repeat (first | refine CW.seq ?_ | refine PW.then_ ?_ | refine PW.then_to rfl ?_ | refine CW.block ?_ | refine CW.skip ?_ | refine CW.ret ?_ | refine PW.then_ret ?_ | refine PW.block_ret ?_ | refine Cut.ret ?_ | refine Rnd.ret ?_ | refine PW.block_normal ?_ | refine CW.exit ?_ | refine PW.then_exit ?_ | refine PW.block_hit ?_ | refine PW.block_miss rfl ?_ | refine Cut.exit ?_ | refine Rnd.exit ?_)
  refine CW.loopM (α := Nat) [22, 278, 279, 280, 281, 282, 283, 284, 285, 286, 287, 288, 289, 290, 291] (fun k i => i ≤ 8 ∧ k = 8 - i) (fun i => [(22, .int .i64 i)])
    (fun i => slOwn 45 1 (.slice (some ⟨gh, 0, none⟩) 8 dh) 8 (wv (mixH h s i)) :: V :: F) 8 0 ⟨Nat.zero_le _, rfl⟩ ⟨rfl, trivial⟩ (by rw [hm0]; exact (by repeat (first | exact Ent.refl _ | (apply Ent.cons; · repeat (first | exact pk_head _ _ | apply pk_tail)) | apply Ent.skip))) ?_
  rintro k7 i7 g7 ⟨hi7, hk7⟩
  repeat (first | refine CW.seq ?_ | refine PW.then_ ?_ | refine PW.then_to rfl ?_ | refine CW.block ?_ | refine CW.skip ?_ | refine CW.ret ?_ | refine PW.then_ret ?_ | refine PW.block_ret ?_ | refine Cut.ret ?_ | refine Rnd.ret ?_ | refine PW.block_normal ?_ | refine CW.exit ?_ | refine PW.then_exit ?_ | refine PW.block_hit ?_ | refine PW.block_miss rfl ?_ | refine Cut.exit ?_ | refine Rnd.exit ?_)
  by_cases hlt7 : i7 < 8
  · have hml := mixH_len h s i7 hhl hsl
    have hmv : (wv (mixH h s i7)).length = 8 := by rw [length_wv, hml]
    have hmg := mixH_get h s i7 hhl hsl hlt7
    have hms := mixH_set h s i7 hhl hsl hlt7
    have hv1 := fun As Bs hp => srcAt (hvS As Bs hp) i7 (by omega)
    have hmS := fun As Bs (hp : List.Perm As (_ :: Bs)) => srcAt (Src.own (e := 45) (m := 8) (d := dh) (q := some ⟨gh, 0, none⟩) (xs := wv (mixH h s i7)) hmv (fun _ => ⟨gh, rfl⟩) hp) i7 (by omega)
    rw [hmg] at hmS
    have hst := wv_set (mixH h s i7) i7 (h.getD i7 0 + s.getD i7 0)
    rw [hms] at hst
    obtain ⟨h', hh'⟩ : ∃ h', mixH h s (i7 + 1) = h' := ⟨_, rfl⟩
    rw [hh'] at hst
    generalize mixH h s i7 = hx at hml hmv hst hmS ⊢
    generalize h.getD i7 0 = x at hmS hst
    generalize s.getD i7 0 = y at hv1 hst
    refine CW.region ?_
    refine L1 (ps_move rfl).os ?_
    refine L1 (ps_t (ps_lss rfl rfl) (by omega)).os ?_
    refine LW.nil ?_
    repeat (first | refine CW.seq ?_ | refine PW.then_ ?_ | refine PW.then_to rfl ?_ | refine CW.block ?_ | refine CW.skip ?_ | refine CW.ret ?_ | refine PW.then_ret ?_ | refine PW.block_ret ?_ | refine Cut.ret ?_ | refine Rnd.ret ?_ | refine PW.block_normal ?_ | refine CW.exit ?_ | refine PW.then_exit ?_ | refine PW.block_hit ?_ | refine PW.block_miss rfl ?_ | refine Cut.exit ?_ | refine Rnd.exit ?_)
    refine CW.cond_true rfl ?_
    repeat (first | refine CW.seq ?_ | refine PW.then_ ?_ | refine PW.then_to rfl ?_ | refine CW.block ?_ | refine CW.skip ?_ | refine CW.ret ?_ | refine PW.then_ret ?_ | refine PW.block_ret ?_ | refine Cut.ret ?_ | refine Rnd.ret ?_ | refine PW.block_normal ?_ | refine CW.exit ?_ | refine PW.then_exit ?_ | refine PW.block_hit ?_ | refine PW.block_miss rfl ?_ | refine Cut.exit ?_ | refine Rnd.exit ?_)
    refine CW.cutB (α := Unit) [282, 283, 284, 285, 286, 287, 288, 289, 290, 291] (fun _ => True) (fun _ => []) (fun _ => slOwn 45 1 (.slice (some ⟨gh, 0, none⟩) 8 dh) 8 (wv h') :: V :: F) ?_ ?_
    · refine CW.drawH [V] [] T.mixed ?_
      refine H_take (i := 0) (some 282) rfl rfl (by kernel_rfl) (by kernel_rfl) (by kernel_rfl) rfl (ps_move rfl).pl (by kernel_rfl) (pkc (by repeat (first | exact pk_head _ _ | apply pk_tail)) (pkn _)) ?_
      refine H_take (i := 1) (some 283) rfl rfl (by kernel_rfl) (by kernel_rfl) (by kernel_rfl) rfl (ps_move rfl).pl (by kernel_rfl) (pkc (by repeat (first | exact pk_head _ _ | apply pk_tail)) (pkn _)) ?_
      refine H_take (i := 2) (some 284) rfl rfl (by kernel_rfl) (by kernel_rfl) (by kernel_rfl) rfl (ps_ia_slice T.un43 T.sz45 rfl rfl (by omega) (by omega)).pl (by kernel_rfl) (pkc (by repeat (first | exact pk_head _ _ | apply pk_tail)) (pkn _)) ?_
      refine H_take (i := 4) (some 286) rfl rfl (by kernel_rfl) (by kernel_rfl) (by kernel_rfl) rfl (ps_move rfl).pl (by kernel_rfl) (pkc (by repeat (first | exact pk_head _ _ | apply pk_tail)) (pkn _)) ?_
      refine H_take (i := 5) (some 287) rfl rfl (by kernel_rfl) (by kernel_rfl) (by kernel_rfl) rfl (ps_move rfl).pl (by kernel_rfl) (pkc (by repeat (first | exact pk_head _ _ | apply pk_tail)) (pkn _)) ?_
      refine H_take (i := 6) (some 288) rfl rfl (by kernel_rfl) (by kernel_rfl) (by kernel_rfl) rfl (ps_ia_slice T.un43 T.sz45 rfl rfl (by omega) (by omega)).pl (by kernel_rfl) (pkc (by repeat (first | exact pk_head _ _ | apply pk_tail)) (pkn _)) ?_
      refine H_take (i := 7) (some 289) rfl rfl (by kernel_rfl) (by kernel_rfl) (by kernel_rfl) rfl (pl_loadS1 (v := w32 y) (fun Bs => hv1 _ _ (by repeat (first | exact pk_head _ _ | apply pk_tail))) T.ag45 rfl) (by kernel_rfl) (pkc (by repeat (first | exact pk_head _ _ | apply pk_tail)) (pkn _)) ?_
      refine H_branch (rs := [3]) (by kernel_rfl) (by simp) ?_
      refine HR.cons1 (i := 3) (some 285) rfl rfl rfl (os_loadS1 (v := w32 x) (hmS _ _ (by repeat (first | exact pk_head _ _ | apply pk_tail))) T.ag45 rfl) (pkc (by repeat (first | exact pk_head _ _ | apply pk_tail)) (pkn _)) ?_ ?_
      · skip
        refine H_take (i := 8) (some 290) rfl rfl (by kernel_rfl) (by kernel_rfl) (by kernel_rfl) rfl (ps32_add _ _ rfl rfl).pl (by kernel_rfl) (pkc (by repeat (first | exact pk_head _ _ | apply pk_tail)) (pkn _)) ?_
        refine H_take (i := 9) (some 291) rfl rfl (by kernel_rfl) (by kernel_rfl) (by kernel_rfl) rfl (ps_ia_slice T.un43 T.sz45 rfl rfl (by omega) (by omega)).pl (by kernel_rfl) (pkc (by repeat (first | exact pk_head _ _ | apply pk_tail)) (pkn _)) ?_
        refine H_branch (rs := [10]) (by kernel_rfl) (by simp) ?_
        refine HR.cons1 (i := 10) none rfl rfl rfl (os_storeOwn (i := i7) (by repeat (first | exact pk_head _ _ | apply pk_tail)) T.sz45 rfl rfl (by rfl) hlt7) (pkc (by repeat (first | exact pk_head _ _ | apply pk_tail)) (pkn _)) ?_ ?_
        · skip
          refine H_done (by kernel_rfl) ?_
          exact Meet.cut () trivial (by repeat (first | (with_reducible exact Ag.refl _ _) | (with_reducible apply Ag.pu0) | ((with_reducible refine Ag.pu _ ?_ ?_); · exact rfl) | ((with_reducible refine Ag.mix ?_ ?_); · exact rfl) | ((with_reducible refine Ag.pus ?_ ?_); · exact rfl))) (by exact trivial) (by rw [← hst]; exact (by repeat (first | exact Ent.refl _ | (apply Ent.cons; · repeat (first | exact pk_head _ _ | apply pk_tail)) | apply Ent.skip)))
        exact HR.nil
      exact HR.nil
    intro _ _ _
    repeat (first | refine CW.seq ?_ | refine PW.then_ ?_ | refine PW.then_to rfl ?_ | refine CW.block ?_ | refine CW.skip ?_ | refine CW.ret ?_ | refine PW.then_ret ?_ | refine PW.block_ret ?_ | refine Cut.ret ?_ | refine Rnd.ret ?_ | refine PW.block_normal ?_ | refine CW.exit ?_ | refine PW.then_exit ?_ | refine PW.block_hit ?_ | refine PW.block_miss rfl ?_ | refine Cut.exit ?_ | refine Rnd.exit ?_)
    refine CW.region ?_
    refine L1 (ps_move rfl).os ?_
    refine L1 (ps_add_i64 rfl rfl (by omega) (by omega)).os ?_
    refine L1 (ps_assign rfl).os ?_
    refine LW.nil ?_
    exact Meet.round (8 - (i7 + 1)) (i7 + 1) (by omega) ⟨hlt7, rfl⟩ (by repeat (first | (with_reducible exact Ag.refl _ _) | (with_reducible apply Ag.pu0) | ((with_reducible refine Ag.pu _ ?_ ?_); · exact rfl) | ((with_reducible refine Ag.mix ?_ ?_); · exact rfl) | ((with_reducible refine Ag.pus ?_ ?_); · exact rfl))) ⟨rfl, trivial⟩ (by rw [hh']; exact (by repeat (first | exact Ent.refl _ | (apply Ent.cons; · repeat (first | exact pk_head _ _ | apply pk_tail)) | apply Ent.skip)))
  have hi8 : i7 = 8 := by omega
  subst hi8
  have hm8 : mixH h s 8 = List.zipWith (· + ·) h s := by
    unfold mixH
    rw [List.take_of_length_le (by rw [List.length_zipWith, hhl, hsl]; decide), List.drop_of_length_le (by omega), List.append_nil]
  rw [hm8]
  refine CW.region ?_
  refine L1 (ps_move rfl).os ?_
  refine L1 (ps_f (ps_lss rfl rfl) (by omega)).os ?_
  refine LW.nil ?_
  repeat (first | refine CW.seq ?_ | refine PW.then_ ?_ | refine PW.then_to rfl ?_ | refine CW.block ?_ | refine CW.skip ?_ | refine CW.ret ?_ | refine PW.then_ret ?_ | refine PW.block_ret ?_ | refine Cut.ret ?_ | refine Rnd.ret ?_ | refine PW.block_normal ?_ | refine CW.exit ?_ | refine PW.then_exit ?_ | refine PW.block_hit ?_ | refine PW.block_miss rfl ?_ | refine Cut.exit ?_ | refine Rnd.exit ?_)
  refine CW.cond_false rfl ?_
  repeat (first | refine CW.seq ?_ | refine PW.then_ ?_ | refine PW.then_to rfl ?_ | refine CW.block ?_ | refine CW.skip ?_ | refine CW.ret ?_ | refine PW.then_ret ?_ | refine PW.block_ret ?_ | refine Cut.ret ?_ | refine Rnd.ret ?_ | refine PW.block_normal ?_ | refine CW.exit ?_ | refine PW.then_exit ?_ | refine PW.block_hit ?_ | refine PW.block_miss rfl ?_ | refine Cut.exit ?_ | refine Rnd.exit ?_)
  exact Meet.cut () trivial (by repeat (first | (with_reducible exact Ag.refl _ _) | (with_reducible apply Ag.pu0) | ((with_reducible refine Ag.pu _ ?_ ?_); · exact rfl) | ((with_reducible refine Ag.mix ?_ ?_); · exact rfl) | ((with_reducible refine Ag.pus ?_ ?_); · exact rfl))) (by exact trivial) (by repeat (first | exact Ent.refl _ | (apply Ent.cons; · repeat (first | exact pk_head _ _ | apply pk_tail)) | apply Ent.skip))
end Go.Proofs.YtcfipblnaifbhaaDoor
